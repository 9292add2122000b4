import PyProof.Rows.All
import Wide.All
import OpenK.AllK
import Wide.FinOn
import HandS.ForMost
import HandS.ForExc
import HandS.Wide
import HandS.Conv
import HandS.IsInst
import HandS.Defaults
import HandS.TryMany
import HandS.Lambda
import HandS.ExcInit
import HandS.Zip
import HandS.HeadHook4
import HandS.HeadWalk
import HandS.HeadEnd
import HandS.Head2
import KE.KExcIs
import HandS.ExcValue
import PySem.Challenge.RW_bandheld_k70_errors_by_themselves
set_option Elab.async false
set_option linter.all false
set_option maxRecDepth 100000
set_option maxHeartbeats 4000000
namespace K70
open PySem PySem.Spec PyProof.Rows L2
/-! ### the text -/
def topS (i : Nat) : Stmt := PySem.Challenge.pw_bandheld_k70_errors_by_themselves.main.body.getD i (.Pass ⟨0, 0, 0, 0⟩)
abbrev sBag : Stmt := topS 36
abbrev sDraw : Stmt := topS 37
/-! ### heaps -/
/-- all but what stands at b is as it was; the list at b keeps its first item -/
structure But (b : Addr) (H H' : Hp) : Prop where
  run : ∀ a o, a ≠ b → H a = some o → H' a = some o
  fst : ∀ l xs, H b = some (.lst (.ref l :: xs)) → ∃ ys, H' b = some (.lst (.ref l :: ys))
theorem But.refl (b : Addr) (H : Hp) : But b H H := ⟨fun _ _ _ h => h, fun _ xs h => ⟨xs, h⟩⟩
theorem But.trans {b : Addr} {H H1 H2 : Hp} (x : But b H H1) (y : But b H1 H2) : But b H H2 :=
  ⟨fun a o n h => y.run a o n (x.run a o n h), fun l xs h => by
    obtain ⟨ys, e⟩ := x.fst l xs h
    exact y.fst l ys e⟩
theorem Same.but {b : Addr} {H H' : Hp} (x : Same H H') : But b H H' := ⟨fun a o _ h => x a o h, fun l xs h => ⟨xs, x _ _ h⟩⟩
theorem But.put {b l : Addr} {H : Hp} {xs ys : List V} (h : H b = some (.lst (.ref l :: xs))) : But b H (upd H b (.lst (.ref l :: ys))) :=
  ⟨fun a u n h => by rw [upd_ne n]; exact h, fun l' zs h' => by
    rw [h] at h'
    cases h'
    exact ⟨ys, upd_same⟩⟩
theorem same_new {H : Hp} {p : Addr} {o : HO} (h : H p = none) : Same H (upd H p o) := fun b x e => by
  rw [upd_ne (ne_of_none e h)]
  exact e
theorem But.new {b : Addr} {H H1 : Hp} {p : Addr} {o : HO} (x : But b H H1) (h : H1 p = none) : But b H (upd H1 p o) := x.trans (Same.but (same_new h))
/-- a call of a def of the text -/
structure Call1 (P : Program) (w : World) (K : PySem.W.Frag) (mg : Str → Option Value) (base : Heap) (x : Str) (k : Nat) (ps : List Str) (sp : Sp) : Prop where
  ex : ∃ (f : Addr) (fd : FuncData), mg x = some (.ref f) ∧ PySem.W.keepIn K (.ref f) = true ∧ Binds K fd ps [] ∧ FnOk P w K mg base CX0 k f fd ps sp
theorem app_nil_fun {sp : Sp} {Q : VK} {E : XK} : (fun (vs : List V) (H1 : Hp) => sp (vs ++ []) H1 Q E) = fun vs H1 => sp vs H1 Q E := by
  funext vs H1
  rw [List.append_nil]
/-- f(e, ..) -/
def tCallD (sp : Sp) (t : TA) : TE := fun σ H Q => t σ H fun vs H1 => sp vs H1 Q E0
theorem pe_callD {X : Cx} {x : Str} {j k : Nat} {ps : List Str} {sp : Sp} {e : Expr} {es : List Expr} {t : TA} {p pos : Pos} (C : Call1 X.prog X.w X.K X.mg X.base x j ps sp) (hr : Room k X.A) (le : j ≤ k) (hg : Gl X x) (ha : PA X (e :: es) t)
    (hdb : (x == ("__debug__" : Str)) = false := by decide) (he : starEach (e :: es) X.env = (false, eval e X.env) :: starEach es X.env := by rfl) (hpl : (backTo pos (starEach es X.env)).any (·.1) = false := by rfl) :
    PE X (.Call (.Name x p) (e :: es) [] pos) (tCallD sp t) := by
  obtain ⟨f, fd, hm, hk, hb, F⟩ := C.ex
  have h := pe_call (p := p) (pos := pos) F (hr.mono le) hg hm hk hb .nil pass0 ha hdb he hpl
  have e : tCall sp [] E0 t = tCallD sp t := by
    funext σ H Q
    show t σ H (fun vs H1 => sp (vs ++ []) H1 Q E0) = t σ H fun vs H1 => sp vs H1 Q E0
    rw [app_nil_fun]
  rw [← e]
  exact h
theorem pe_callD0 {X : Cx} {x : Str} {j k : Nat} {ps : List Str} {sp : Sp} {p pos : Pos} (C : Call1 X.prog X.w X.K X.mg X.base x j ps sp) (hr : Room k X.A) (le : j ≤ k) (hg : Gl X x)
    (hdb : (x == ("__debug__" : Str)) = false := by decide) : PE X (.Call (.Name x p) [] [] pos) (tCallD sp tNil) := by
  obtain ⟨f, fd, hm, hk, hb, F⟩ := C.ex
  exact pe_call0 (p := p) (pos := pos) F (hr.mono le) hg hm hk hb .nil pass0 hdb
/-- a def of the text that stands behind the top -/
structure DefT (K : PySem.W.Frag) (mg : Str → Option Value) (x : Str) (st : Stmt) : Prop where
  ex : ∃ (f : Addr) (fd : FuncData), mg x = some (.ref f) ∧ FunD K x x (defArgs st) (defBody st) (defScope st) [] [] f fd
section
variable {P : Program} {w : World} {K : PySem.W.Frag} {mg : Str → Option Value} {base : Heap}
theorem DefT.call {x : Str} {st : Stmt} {N ps : List Str} {k : Nat} {sp : Sp} (D : DefT K mg x st) (S : FnScope N ps (defScope st)) (len : ∀ vs H Q E, sp vs H Q E → vs.length = ps.length)
    (hb : ∀ (kV doc pm : Value) (an : Option Addr) (cdv ct : Value) (us : List Value), us.length = ps.length → bindArgs (PySem.W.fnOf x x (defArgs st) (defBody st) (defScope st) .none kV doc pm an cdv ct) ⟨us, []⟩ = pure (ps.zip us))
    (hbody : ∀ (f : Addr) (cdv : Value) (A : Around) (outer : List Env) (s : Shared) (H : Hp) (vs : List V) (Q : VK) (E : XK), Room k (A.deeper (envOfC x (defScope st) s.heap.objs.size f cdv)) → sp vs H Q E →
      ∃ t, PSs (cxOf CX0 P w K mg base N x (defScope st) f cdv A outer s H E).nox (defBody st) t ∧ t { nx := fun _ H' => Q .non H', rt := Q } (start N vs) H) : Call1 P w K mg base x (k + 1) ps sp := by
  obtain ⟨f, fd, hm, F⟩ := D.ex
  refine ⟨f, fd, hm, F.kp, F.bindsN hb, F.ok S len fun cdv A outer s H vs Q E hr h => ?_⟩
  obtain ⟨t, d, q⟩ := hbody f cdv A outer s H vs Q E hr h
  exact ⟨t, d.nox, q⟩
end
/-- built-in names that nobody took -/
structure Bl (mg : Str → Option Value) : Prop where
  int : mg "int" = none
  list : mg "list" = none
  len : mg "len" = none
  isinstance : mg "isinstance" = none
  all : mg "all" = none
  zip : mg "zip" = none
  sorted : mg "sorted" = none
  range : mg "range" = none
  max : mg "max" = none
  tuple : mg "tuple" = none
  str : mg "str" = none
  bool : mg "bool" = none
  ValueError : mg "ValueError" = none
  LookupError : mg "LookupError" = none
  RuntimeError : mg "RuntimeError" = none
theorem boot_len : bootBuiltins "len" = some (.builtin "len") := by decide +kernel
theorem boot_isinstance : bootBuiltins "isinstance" = some (.builtin "isinstance") := by decide +kernel
theorem boot_sorted : bootBuiltins "sorted" = some (.builtin "sorted") := by decide +kernel
theorem boot_list : bootBuiltins "list" = some (.type "list") := by decide +kernel
theorem boot_int : bootBuiltins "int" = some (.type "int") := by decide +kernel
/-! ### the bag -/
structure BagAt (H : Hp) (b l : Addr) (ns : List Int) (i : Nat) (left seed cnt : Int) : Prop where
  hb : H b = some (.lst [.ref l, .int i, .int left, .int seed, .int cnt])
  hl : H l = some (.lst (ns.map V.int))
  ne : l ≠ b
  hi : i ≤ ns.length
  h0 : 0 ≤ left
  s0 : 0 ≤ seed
  s1 : seed < 2147483629
def Bag (H : Hp) (b : Addr) : Prop := ∃ l ns i left seed cnt, BagAt H b l ns i left seed cnt
theorem BagAt.put {H : Hp} {b l : Addr} {ns : List Int} {i i' : Nat} {left seed cnt left' seed' cnt' : Int} (B : BagAt H b l ns i left seed cnt) (hi : i' ≤ ns.length) (h0 : 0 ≤ left') (s0 : 0 ≤ seed') (s1 : seed' < 2147483629) :
    BagAt (upd H b (.lst [.ref l, .int i', .int left', .int seed', .int cnt'])) b l ns i' left' seed' cnt' :=
  ⟨upd_same, by rw [upd_ne B.ne]; exact B.hl, B.ne, hi, h0, s0, s1⟩
theorem Bag.same {H H' : Hp} {b : Addr} (s : Same H H') (B : Bag H b) : Bag H' b := by
  obtain ⟨l, ns, i, left, seed, cnt, B⟩ := B
  exact ⟨l, ns, i, left, seed, cnt, s _ _ B.hb, s _ _ B.hl, B.ne, B.hi, B.h0, B.s0, B.s1⟩
def spBag (K : PySem.W.Frag) : Sp := fun vs H Q _ => ∃ (a : Addr) (ns : List Int), vs = [.ref a] ∧ SqL K H a (ns.map V.int) ∧ ns.length ≤ 63 ∧ ∀ H' b, Same H H' → H b = none → Bag H' b → Q (.ref b) H'
def spDraw : Sp := fun vs H Q _ => ∃ (b : Addr) (m : Int), vs = [.ref b, .int m] ∧ Bag H b ∧ 0 < m ∧ m < 1073741824 ∧ ∀ H' r, 0 ≤ r → r < m → Bag H' b → But b H H' → Q (.int r) H'
theorem scBag : FnScope ["_law_script", "_law_seed", "_law_item"] ["_law_script"] (defScope sBag) := ⟨rfl, rfl, rfl, by decide +kernel, rfl, by decide +kernel, by decide +kernel⟩
theorem scDraw : FnScope ["_law_bag_here", "_law_many", "_law_item", "_law_digit"] ["_law_bag_here", "_law_many"] (defScope sDraw) := ⟨rfl, rfl, rfl, by decide +kernel, rfl, by decide +kernel, by decide +kernel⟩
theorem cutV_map (ns : List Int) (lo hi : Option Int) : ∃ ms : List Int, cutV (ns.map V.int) lo hi = ms.map V.int ∧ ms.length ≤ ns.length := by
  refine ⟨(ns.drop (HT.sIx (ns.map V.int).length 0 lo)).take (HT.sIx (ns.map V.int).length (ns.map V.int).length hi - HT.sIx (ns.map V.int).length 0 lo), ?_, ?_⟩
  · unfold cutV
    rw [List.map_take, List.map_drop]
  · rw [List.length_take, List.length_drop]
    omega
section
variable {P : Program} {w : World} {K : PySem.W.Frag} {mg : Str → Option Value} {base : Heap}
theorem ok_bag (D : DefT K mg "_law_bag" sBag) (B : Bl mg) : Call1 P w K mg base "_law_bag" 1 ["_law_script"] (spBag K) := by
  refine D.call scBag (fun vs H Q E h => ?_) (fun _ _ _ _ _ _ us hl => match us, hl with | [_], _ => rfl) (fun f cdv A outer s H vs Q E hr h => ?_)
  · obtain ⟨a, ns, rfl, _⟩ := h
    rfl
  · obtain ⟨a, ns, rfl, hS, hlen, q⟩ := h
    refine ⟨_, (pss_cons (ps_set (i := 1) scBag.nd rfl (.inl rfl) pe_int)
 (pss_cons (ps_for PassesOwn.never rfl (pi_list (pe_slice sl_list (pv 0) po_none (po_some pe_int))) (pg_name (i := 2) scBag.nd rfl (.inl rfl))
 (pss_one (ps_set (i := 1) scBag.nd rfl (.inl rfl) (pe_op op_mod (pe_callTy call_int1 (by rfl) B.int boot_int (pa_cons (pe_op op_add (pe_op op_add (pe_op op_mul (pv 1) pe_int) (pe_op op_mod (pe_callTy call_int1 (by rfl) B.int boot_int (pa_cons (pv 2) pa_nil)) pe_int)) pe_int) pa_nil)) pe_int))))
 (pss_one (ps_ret (pe_lst (pa_cons (pe_callTy call_list_of (by rfl) B.list boot_list (pa_cons (pe_slice sl_list (pv 0) po_none (po_some pe_int)) pa_nil)) (pa_cons pe_int (pa_cons pe_int (pa_cons (pv 1) (pa_cons pe_int pa_nil)))))))))), ?_⟩
    -- the slice
    obtain ⟨ms, em, lm⟩ := cutV_map ns none (some 63)
    refine ⟨.ref a, rfl, 63, rfl, a, _, rfl, hS, fun c nc => ?_⟩
    rw [em]
    have s1 : Same H (upd H c (.lst (ms.map V.int))) := same_new nc
    have hC : SqL K (upd H c (.lst (ms.map V.int))) c (ms.map V.int) := .inl (.inl upd_same)
    refine ⟨c, rfl, ⟨_, hC⟩, for_list (K := K) (a := c) (xs := ms.map V.int) (fun i σ H' => ∃ (sd : Int) (y : Option V), σ = [some (.ref a), some (.int sd), y] ∧ 0 ≤ sd ∧ sd < 2147483629 ∧ H' = upd H c (.lst (ms.map V.int)))
      ⟨13965, none, rfl, by decide, by decide, rfl⟩ (fun i σ H' _ ⟨_, _, _, _, _, e⟩ => by rw [e]; exact hC) ?_ ?_⟩
    · rintro i x σ H' hi ⟨sd, y, rfl, h0, h1, rfl⟩
      obtain ⟨z, hz, rfl⟩ : ∃ z, ms[i]? = some z ∧ x = V.int z := by
        rw [List.getElem?_map] at hi
        cases e : ms[i]? with
        | none => rw [e] at hi; cases hi
        | some z => rw [e] at hi; exact ⟨z, rfl, (Option.some.inj hi).symm⟩
      refine ⟨_, rfl, _, _, rfl, rfl, .inr (by decide), .int z, rfl, .inl ⟨z, rfl, ?_⟩⟩
      refine ⟨_, _, rfl, rfl, (by show (0 : Int) < 2147483587; decide), _, _, rfl, rfl, _, _, rfl, rfl, .inl ⟨_, rfl, ?_⟩⟩
      refine ⟨_, _, rfl, rfl, (by show (0 : Int) < 2147483629; decide), _, _, rfl, Int.emod_nonneg _ (by decide), Int.emod_lt_of_pos _ (by decide), rfl⟩
    · rintro σ H' ⟨sd, y, rfl, h0, h1, rfl⟩
      refine ⟨.ref a, rfl, 63, rfl, a, _, rfl, s1.seq hS, fun d nd => ?_⟩
      rw [em]
      have s2 := same_new (o := .lst (ms.map V.int)) nd
      refine ⟨d, _, rfl, .inl (.inl (.inl upd_same)), fun e ne => ?_⟩
      have s3 := same_new (o := .lst (ms.map V.int)) ne
      refine ⟨.int sd, rfl, (by show 5 ≤ sizeLine; decide), fun b nb => ?_⟩
      have s4 := same_new (o := .lst [.ref e, .int 0, .int 0, .int sd, .int 0]) nb
      refine q _ b (s1.trans (s2.trans (s3.trans s4))) (Same.free (s1.trans (s2.trans s3)) nb) ⟨e, ms, 0, 0, sd, 0, upd_same, s4 _ _ upd_same, ?_, Nat.zero_le _, by decide, h0, h1⟩
      intro z
      rw [← z, upd_same] at nb
      cases nb
end
end K70
set_option maxRecDepth 100000
set_option maxHeartbeats 4000000
namespace K70
open PySem PySem.Spec PyProof.Rows L2
section
variable {K : PySem.W.Frag} {σ : L2.St} {H : Hp}
theorem rdL {Q : VK} {j : Nat} {b : Addr} {xs : List V} {k : Int} {v : V} (hs : σ[j]? = some (some (.ref b))) (h : H b = some (.lst xs)) (ha : atI xs k = some v) (q : Q v H) : tOp (rIxL K) (tVar j) (tC (.int k)) σ H Q :=
  ⟨_, hs, _, _, _, _, rfl, rfl, .inl (.inl h), ha, q⟩
theorem wrL {Q : L2.St → Hp → Prop} {j : Nat} {b : Addr} {xs : List V} {k : Int} {n : Nat} {v : V} (hs : σ[j]? = some (some (.ref b))) (h : H b = some (.lst xs)) (hn : ixN xs.length k = some n) (q : Q σ (upd H b (.lst (xs.set n v)))) :
    gSub (tVar j) (tC (.int k)) rSetL v σ H Q := ⟨_, hs, _, _, _, _, rfl, rfl, h, hn, q⟩
theorem addI {g : Int → Int → V} {i j : Int} {Q : VK} (q : Q (g i j) H) : rI0 g (.int i) (.int j) H Q := ⟨_, _, rfl, rfl, q⟩
theorem opI' {C : Int → Int → Prop} {g : Int → Int → V} {i j : Int} {Q : VK} (c : C i j) (q : Q (g i j) H) : rI C g (.int i) (.int j) H Q := ⟨_, _, rfl, rfl, c, q⟩
end
theorem cmul_r {i j : Int} (h : -(2 ^ 64) < j ∧ j < 2 ^ 64) : CMul i j := .inr h
theorem cmul_l {i j : Int} (h : -(2 ^ 64) < i ∧ i < 2 ^ 64) : CMul i j := .inl h
section
variable {Q : L2.St → Hp → Prop} {σ : L2.St} {H : Hp} {j : Nat} {b l : Addr} {ns : List Int} {i : Nat} {left seed cnt : Int}
theorem BagAt.w1 (B : BagAt H b l ns i left seed cnt) {z : Int} {i' : Nat} (hs : σ[j]? = some (some (.ref b))) (hz : z = i') (hi : i' ≤ ns.length) (q : ∀ H', BagAt H' b l ns i' left seed cnt → But b H H' → Q σ H') :
    gSub (tVar j) (tC (.int 1)) rSetL (.int z) σ H Q := by
  subst hz
  exact wrL hs B.hb rfl (q _ (B.put hi B.h0 B.s0 B.s1) (But.put B.hb))
theorem BagAt.w2 (B : BagAt H b l ns i left seed cnt) {z : Int} (hs : σ[j]? = some (some (.ref b))) (hz : 0 ≤ z) (q : ∀ H', BagAt H' b l ns i z seed cnt → But b H H' → Q σ H') :
    gSub (tVar j) (tC (.int 2)) rSetL (.int z) σ H Q := wrL hs B.hb rfl (q _ (B.put B.hi hz B.s0 B.s1) (But.put B.hb))
theorem BagAt.w3 (B : BagAt H b l ns i left seed cnt) {z : Int} (hs : σ[j]? = some (some (.ref b))) (h0 : 0 ≤ z) (h1 : z < 2147483629) (q : ∀ H', BagAt H' b l ns i left z cnt → But b H H' → Q σ H') :
    gSub (tVar j) (tC (.int 3)) rSetL (.int z) σ H Q := wrL hs B.hb rfl (q _ (B.put B.hi B.h0 h0 h1) (But.put B.hb))
theorem BagAt.w4 (B : BagAt H b l ns i left seed cnt) {z : Int} (hs : σ[j]? = some (some (.ref b))) (q : ∀ H', BagAt H' b l ns i left seed z → But b H H' → Q σ H') :
    gSub (tVar j) (tC (.int 4)) rSetL (.int z) σ H Q := wrL hs B.hb rfl (q _ (B.put B.hi B.h0 B.s0 B.s1) (But.put B.hb))
end
theorem modP {x m : Int} (h : 0 < m) : 0 ≤ x % m ∧ x % m < m := ⟨Int.emod_nonneg _ (by omega), Int.emod_lt_of_pos _ h⟩
section
variable {P : Program} {w : World} {K : PySem.W.Frag} {mg : Str → Option Value} {base : Heap}
theorem ok_draw (D : DefT K mg "_law_draw" sDraw) (B : Bl mg) : Call1 P w K mg base "_law_draw" 1 ["_law_bag_here", "_law_many"] spDraw := by
  refine D.call scDraw (fun vs H Q E h => ?_) (fun _ _ _ _ _ _ us hl => match us, hl with | [_, _], _ => rfl) (fun f cdv A outer s H vs Q E hr h => ?_)
  · obtain ⟨b, m, rfl, _⟩ := h
    rfl
  · obtain ⟨b, m, rfl, ⟨l, ns, i, left, seed, cnt, G⟩, hm, hm2, q⟩ := h
    refine ⟨_, (pss_cons (ps_asg (pe_op op_add (pe_ix ix_list (pv 0) pe_int (fun _ _ => rfl)) pe_int) (pg_sub (pv 0) pe_int set_list))
 (C8.pss_cut (ps_if (PW.pt (pw_and (pt_cmpR op_eq (pe_ix ix_list (pv 0) pe_int (fun _ _ => rfl)) pe_int (nomark _)) (pw_and1 (pt_cmpR op_lt (pe_ix ix_list (pv 0) pe_int (fun _ _ => rfl)) (pe_callB call_len_seq (by rfl) B.len boot_len (pa_cons (pe_ix ix_list (pv 0) pe_int (fun _ _ => rfl)) pa_nil)) (nomark _)))))
 (pss_cons (ps_set (i := 2) scDraw.nd rfl (.inl rfl) (pe_ix ix_list (pe_ix ix_list (pv 0) pe_int (fun _ _ => rfl)) (pe_ix ix_list (pv 0) pe_int (fun _ _ => rfl)) (fun _ _ => rfl)))
 (pss_cons (ps_asg (pe_op op_add (pe_ix ix_list (pv 0) pe_int (fun _ _ => rfl)) pe_int) (pg_sub (pv 0) pe_int set_list))
 (pss_one (ps_if (pt_cmpR op_ge (pv 2) (pe_op op_pow pe_int pe_int) (nomark _))
 (pss_one (ps_asg (pv 2) (pg_sub (pv 0) pe_int set_list)))
 (pss_one (ps_asg (pe_op op_mod (pe_callTy call_int1 (by rfl) B.int boot_int (pa_cons (pe_op op_add (pe_op op_add (pe_op op_mul (pe_ix ix_list (pv 0) pe_int (fun _ _ => rfl)) pe_int) (pe_op op_mul (pe_op op_mod (pe_callTy call_int1 (by rfl) B.int boot_int (pa_cons (pv 2) pa_nil)) pe_int) pe_int)) pe_int) pa_nil)) pe_int) (pg_sub (pv 0) pe_int set_list)))))))
 pss_nil)
 (pss_cons (ps_if (pt_cmpR op_gt (pe_ix ix_list (pv 0) pe_int (fun _ _ => rfl)) pe_int (nomark _))
 (pss_cons (ps_set (i := 3) scDraw.nd rfl (.inl rfl) (pe_op op_mod (pe_callTy call_int1 (by rfl) B.int boot_int (pa_cons (pe_ix ix_list (pv 0) pe_int (fun _ _ => rfl)) pa_nil)) (pv 1)))
 (pss_cons (ps_asg (pe_op op_fdiv (pe_ix ix_list (pv 0) pe_int (fun _ _ => rfl)) (pv 1)) (pg_sub (pv 0) pe_int set_list))
 (pss_one (ps_ret (pv 3)))))
 pss_nil)
 (pss_cons (ps_asg (pe_op op_mod (pe_callTy call_int1 (by rfl) B.int boot_int (pa_cons (pe_op op_add (pe_op op_add (pe_op op_pow (pe_ix ix_list (pv 0) pe_int (fun _ _ => rfl)) pe_int) (pe_op op_mul (pe_ix ix_list (pv 0) pe_int (fun _ _ => rfl)) pe_int)) pe_int) pa_nil)) pe_int) (pg_sub (pv 0) pe_int set_list))
 (pss_one (ps_ret (pe_op op_mod (pe_callTy call_int1 (by rfl) B.int boot_int (pa_cons (pe_op op_add (pe_op op_fdiv (pe_ix ix_list (pv 0) pe_int (fun _ _ => rfl)) pe_int) (pe_op op_mul (pe_op op_mod (pe_callTy call_int1 (by rfl) B.int boot_int (pa_cons (pe_ix ix_list (pv 0) pe_int (fun _ _ => rfl)) pa_nil)) pe_int) pe_int)) pa_nil)) (pv 1)))))))), ?_⟩
    -- bag[4] = bag[4] + 1
    refine rdL rfl G.hb rfl ⟨_, _, rfl, rfl, G.w4 rfl fun H1 G1 B1 => ?_⟩
    refine ⟨fun σ' H' => ∃ (i2 : Nat) (left2 seed2 : Int) (y z : Option V), σ' = [some (.ref b), some (.int m), y, z] ∧ BagAt H' b l ns i2 left2 seed2 (cnt + 1) ∧ But b H H', ?_, ?_⟩
    · -- if bag[2] == 0 and bag[1] < len(bag[0])
      refine rdL rfl G1.hb rfl ⟨rfl, _, rfl, ?_⟩
      refine ite2 (fun e => ?_) (fun e => ?_)
      · refine rdL rfl G1.hb rfl (rdL rfl G1.hb rfl ⟨l, _, rfl, .inl (.inl (.inl G1.hl)), _, _, rfl, rfl, _, rfl, ?_⟩)
        refine ite2 (fun e2 => ?_) (fun e2 => ?_)
        · have hi : i < ns.length := by
            have e3 := of_decide_eq_true e2
            rw [List.length_map] at e3
            omega
          have hat : (ns.map V.int)[i]? = some (.int ns[i]) := by
            rw [List.getElem?_map, List.getElem?_eq_getElem hi]
            rfl
          refine rdL rfl G1.hb rfl (rdL rfl G1.hb rfl ⟨l, _, _, _, rfl, rfl, .inl (.inl G1.hl), atI_nat hat, ?_⟩)
          refine rdL rfl G1.hb rfl ⟨_, _, rfl, rfl, G1.w1 (i' := i + 1) rfl rfl hi fun H2 G2 B2 => ?_⟩
          generalize ns[i] = z
          refine ⟨.int z, rfl, _, _, rfl, rfl, ⟨by decide, by decide, by decide⟩, _, _, rfl, rfl, _, rfl, ?_⟩
          refine ite2 (fun e3 => ?_) (fun e3 => ?_)
          · have e4 : (10 : Int) ^ (18 : Int).toNat ≤ z := of_decide_eq_true e3
            have e5 : (0 : Int) ≤ (10 : Int) ^ (18 : Int).toNat := by decide
            refine ⟨.int z, rfl, G2.w2 rfl (by omega) fun H3 G3 B3 => ⟨i + 1, z, seed, some (.int z), none, rfl, G3, (B1.trans B2).trans B3⟩⟩
          · refine rdL rfl G2.hb rfl ⟨_, _, rfl, rfl, .inr (by decide), .int z, rfl, .inl ⟨z, rfl, ?_⟩⟩
            refine ⟨_, _, rfl, rfl, (by show (0 : Int) < 2147483549; decide), _, _, rfl, rfl, .inr (by decide), _, _, rfl, rfl, _, _, rfl, rfl, .inl ⟨_, rfl, ?_⟩⟩
            have md := fun x : Int => modP (x := x) (show (0 : Int) < 2147483629 by decide)
            exact ⟨_, _, rfl, rfl, (by show (0 : Int) < 2147483629; decide), G2.w3 rfl (md _).1 (md _).2 fun H3 G3 B3 => ⟨i + 1, left, _, some (.int z), none, rfl, G3, (B1.trans B2).trans B3⟩⟩
        · exact ⟨i, left, seed, none, none, rfl, G1, B1⟩
      · exact ⟨i, left, seed, none, none, rfl, G1, B1⟩
    · rintro σ' H2 ⟨i2, left2, seed2, y, z, rfl, G2, B2⟩
      -- if bag[2] > 0
      refine rdL rfl G2.hb rfl ⟨_, _, rfl, rfl, _, rfl, ?_⟩
      refine ite2 (fun e => ?_) (fun e => ?_)
      · have hl : 0 < left2 := of_decide_eq_true e
        refine rdL rfl G2.hb rfl (.inl ⟨_, rfl, .int m, rfl, _, _, rfl, rfl, hm, ?_⟩)
        refine rdL rfl G2.hb rfl ⟨.int m, rfl, _, _, rfl, rfl, ⟨hm, hm2⟩, G2.w2 rfl (Int.ediv_nonneg G2.h0 (by omega)) fun H3 G3 B3 => ?_⟩
        exact ⟨_, rfl, q _ _ (modP hm).1 (modP hm).2 ⟨_, _, _, _, _, _, G3⟩ (B2.trans B3)⟩
      · have b1 := G2.s0
        have b2 := G2.s1
        refine rdL rfl G2.hb rfl ⟨_, _, rfl, rfl, ⟨by decide, by decide, by omega⟩, rdL rfl G2.hb rfl ⟨_, _, rfl, rfl, .inr (by decide), _, _, rfl, rfl, _, _, rfl, rfl, .inl ⟨_, rfl, ?_⟩⟩⟩
        have md := fun x : Int => modP (x := x) (show (0 : Int) < 2147483629 by decide)
        refine ⟨_, _, rfl, rfl, (by show (0 : Int) < 2147483629; decide), G2.w3 rfl (md _).1 (md _).2 fun H3 G3 B3 => ?_⟩
        refine rdL rfl G3.hb rfl ⟨_, _, rfl, rfl, ⟨by decide, by decide⟩, rdL rfl G3.hb rfl (.inl ⟨_, rfl, ?_⟩)⟩
        refine ⟨_, _, rfl, rfl, (by show (0 : Int) < 7901; decide), _, _, rfl, rfl, .inr (by decide), _, _, rfl, rfl, .inl ⟨_, rfl, .int m, rfl, _, _, rfl, rfl, hm, ?_⟩⟩
        exact q _ _ (modP hm).1 (modP hm).2 ⟨_, _, _, _, _, _, G3⟩ (B2.trans B3)
end
end K70
set_option maxRecDepth 100000
set_option maxHeartbeats 4000000
namespace K70
open PySem PySem.Spec PyProof.Rows L2
abbrev sWide : Stmt := topS 38
abbrev sOf : Stmt := topS 39
abbrev sPair : Stmt := topS 41
abbrev sGreat : Stmt := topS 42
theorem scWide : FnScope ["_law_bag_here", "_law_figures", "_law_number", "_law_size", "_law_k"] ["_law_bag_here", "_law_figures"] (defScope sWide) := ⟨rfl, rfl, rfl, by decide +kernel, rfl, by decide +kernel, by decide +kernel⟩
theorem scOf : FnScope ["_law_bag_here", "_law_things"] ["_law_bag_here", "_law_things"] (defScope sOf) := ⟨rfl, rfl, rfl, by decide +kernel, rfl, by decide +kernel, by decide +kernel⟩
theorem scPair : FnScope ["_law_a", "_law_b", "_law_x", "_law_y"] ["_law_a", "_law_b"] (defScope sPair) := ⟨rfl, rfl, rfl, by decide +kernel, rfl, by decide +kernel, by decide +kernel⟩
theorem scGreat : FnScope ["_law_bag_here", "_law_a", "_law_b", "_law_c"] ["_law_bag_here"] (defScope sGreat) := ⟨rfl, rfl, rfl, by decide +kernel, rfl, by decide +kernel, by decide +kernel⟩
def spWide : Sp := fun vs H Q _ => ∃ (b : Addr) (n : Int), vs = [.ref b, .int n] ∧ (n = 9 ∨ n = 10) ∧ Bag H b ∧ ∀ H' r, 0 ≤ r → r < 10000000000 → Bag H' b → But b H H' → Q (.int r) H'
def spOf : Sp := fun vs H Q _ => ∃ b, Bag H b ∧ ((∃ t xs, vs = [.ref b, .ref t] ∧ H t = some (.lst xs) ∧ t ≠ b ∧ xs ≠ [] ∧ xs.length ≤ 1000 ∧ ∀ H' v, v ∈ xs → Bag H' b → But b H H' → Q v H') ∨
  ∃ z : Str, vs = [.ref b, .str z] ∧ 0 < z.cps.size ∧ z.cps.size ≤ 1000 ∧ ∀ H' c, Bag H' b → But b H H' → Q (.str ⟨#[c]⟩) H')
def big : Int := 10000000000000000000000000000000000000000
def spPair : Sp := fun vs H Q _ => ∃ (a b : Int), vs = [.int a, .int b] ∧ 0 < b ∧ b < big ∧ ∀ p u v, H p = none → Q (.ref p) (upd H p (.tup [.int u, .int v]))
def spGreat : Sp := fun vs H Q _ => ∃ (b : Addr), vs = [.ref b] ∧ Bag H b ∧ ∀ H' r, 0 ≤ r → r < big → Bag H' b → But b H H' → Q (.int r) H'
theorem Bag.but {H H' : Hp} {b : Addr} (B : Bag H' b) : Bag H' b := B
theorem call_len_any {X : Cx} : CallR X (.builtin "len") (fun xs H Q => (∃ p ys, xs = [.ref p] ∧ (SqL X.K H p ys ∨ SqT X.K H p ys) ∧ Q (.int ys.length) H) ∨ ∃ z, xs = [.str z] ∧ z.length ≤ sizeLine ∧ Q (.int z.length) H) := CallR.or call_len_seq call_len_str
theorem atI_int {α : Type} {xs : List α} {r : Int} (r0 : 0 ≤ r) (r1 : r.toNat < xs.length) : atI xs r = some xs[r.toNat] := by
  obtain ⟨k, rfl⟩ : ∃ k : Nat, r = k := ⟨r.toNat, by omega⟩
  exact atI_nat (List.getElem?_eq_getElem r1)
theorem small_of {n : Nat} (h : n ≤ 1000) : n ≤ sizeLine := Nat.le_trans h (by decide)
section
variable {P : Program} {w : World} {K : PySem.W.Frag} {mg : Str → Option Value} {base : Heap}
abbrev CDraw (P : Program) (w : World) (K : PySem.W.Frag) (mg : Str → Option Value) (base : Heap) : Prop := Call1 P w K mg base "_law_draw" 1 ["_law_bag_here", "_law_many"] spDraw
abbrev CWide (P : Program) (w : World) (K : PySem.W.Frag) (mg : Str → Option Value) (base : Heap) : Prop := Call1 P w K mg base "_law_wide" 2 ["_law_bag_here", "_law_figures"] spWide
abbrev COf (P : Program) (w : World) (K : PySem.W.Frag) (mg : Str → Option Value) (base : Heap) : Prop := Call1 P w K mg base "_law_of" 2 ["_law_bag_here", "_law_things"] spOf
abbrev CPair (P : Program) (w : World) (K : PySem.W.Frag) (mg : Str → Option Value) (base : Heap) : Prop := Call1 P w K mg base "_law_pair" 1 ["_law_a", "_law_b"] spPair
abbrev CGreat (P : Program) (w : World) (K : PySem.W.Frag) (mg : Str → Option Value) (base : Heap) : Prop := Call1 P w K mg base "_law_great" 3 ["_law_bag_here"] spGreat
theorem ok_of (D : DefT K mg "_law_of" sOf) (B : Bl mg) (C_law_draw : CDraw P w K mg base) : COf P w K mg base := by
  refine D.call scOf (fun vs H Q E h => ?_) (fun _ _ _ _ _ _ us hl => match us, hl with | [_, _], _ => rfl) (fun f cdv A outer s H vs Q E hr h => ?_)
  · obtain ⟨b, _, ⟨_, _, rfl, _⟩ | ⟨_, rfl, _⟩⟩ := h <;> rfl
  · refine ⟨_, (pss_one (ps_ret (pe_ix ix_seq (pv 1) (pe_callD C_law_draw hr (by omega) (by rfl) (pa_cons (pv 0) (pa_cons (pe_callB call_len_any (by rfl) B.len boot_len (pa_cons (pv 1) pa_nil)) pa_nil))) (fun _ _ => rfl)))), ?_⟩
    obtain ⟨b, G, ⟨t, xs, rfl, ht, ntb, hne, hl, q⟩ | ⟨z, rfl, hz, hz2, q⟩⟩ := h
    · have h0 : 0 < xs.length := List.length_pos_iff.mpr hne
      refine ⟨.ref t, rfl, .ref b, rfl, .ref t, rfl, .inl ⟨t, xs, rfl, .inl (.inl (.inl ht)), b, _, rfl, G, by omega, by omega, fun H' r r0 r1 G' B' => ?_⟩⟩
      have hr' : r.toNat < xs.length := by omega
      have hat := atI_int r0 hr'
      exact .inl ⟨t, xs, r, _, rfl, rfl, .inl (.inl (B'.run _ _ ntb ht)), hat, q H' _ (List.getElem_mem hr') G' B'⟩
    · refine ⟨.str z, rfl, .ref b, rfl, .str z, rfl, .inr ⟨z, rfl, small_of hz2, b, _, rfl, G, ?_, ?_, fun H' r r0 r1 G' B' => ?_⟩⟩
      · show (0 : Int) < (z.cps.size : Int)
        omega
      · show (z.cps.size : Int) < 1073741824
        omega
      · have r1' : r < (z.cps.size : Int) := r1
        have hr' : r.toNat < z.cps.toList.length := by
          rw [Array.length_toList]
          omega
        have hat := atI_int r0 hr'
        exact .inr (.inr ⟨z, r, _, rfl, rfl, small_of hz2, hat, q H' _ G' B'⟩)
theorem ok_wide (D : DefT K mg "_law_wide" sWide) (B : Bl mg) (C_law_draw : CDraw P w K mg base) : CWide P w K mg base := by
  refine D.call scWide (fun vs H Q E h => ?_) (fun _ _ _ _ _ _ us hl => match us, hl with | [_, _], _ => rfl) (fun f cdv A outer s H vs Q E hr h => ?_)
  · obtain ⟨b, n, rfl, _⟩ := h
    rfl
  · refine ⟨_, (pss_cons (ps_asg (pe_tup (pa_cons pe_int (pa_cons pe_int pa_nil))) (pg_tup (n := 2) rfl (pgs_cons (pg_name (i := 2) scWide.nd rfl (.inl rfl)) (pgs_cons (pg_name (i := 3) scWide.nd rfl (.inl rfl)) pgs_nil))))
 (pss_cons (ps_for PassesOwn.never rfl (pi_range1 (by rfl) B.range (pa_cons (pe_op op_fdiv (pv 1) pe_int) pa_nil)) (pg_name (i := 4) scWide.nd rfl (.inl rfl))
 (pss_cons (ps_set (i := 2) scWide.nd rfl (.inl rfl) (pe_op op_add (pv 2) (pe_op op_mul (pe_callD C_law_draw hr (by omega) (by rfl) (pa_cons (pv 0) (pa_cons pe_int pa_nil))) (pv 3))))
 (pss_one (ps_set (i := 3) scWide.nd rfl (.inl rfl) (pe_op op_mul (pv 3) pe_int)))))
 (C8.pss_cut (ps_if (pt_cmpR op_gt (pe_op op_mod (pe_callTy call_int1 (by rfl) B.int boot_int (pa_cons (pv 1) pa_nil)) pe_int) pe_int (nomark _))
 (pss_one (ps_set (i := 2) scWide.nd rfl (.inl rfl) (pe_op op_add (pv 2) (pe_op op_mul (pe_callD C_law_draw hr (by omega) (by rfl) (pa_cons (pv 0) (pa_cons (pe_ix ix_tup (pe_tup (pa_cons pe_int (pa_cons pe_int (pa_cons pe_int (pa_cons pe_int (pa_cons pe_int pa_nil)))))) (pe_op op_mod (pe_callTy call_int1 (by rfl) B.int boot_int (pa_cons (pv 1) pa_nil)) pe_int) (fun _ _ => rfl)) pa_nil))) (pv 3)))))
 pss_nil)
 (pss_one (ps_ret (pv 2)))))), ?_⟩
    obtain ⟨b, n, rfl, hn, G, q⟩ := h
    have k : ∃ m : Nat, n / 5 = m ∧ m ≤ 2 ∧ (m = 1 ∨ n % 5 = 0) ∧ (n % 5 = 0 ∨ n % 5 = 4) := by
      rcases hn with rfl | rfl
      · exact ⟨1, rfl, by decide, .inl rfl, .inr rfl⟩
      · exact ⟨2, rfl, by decide, .inr rfl, .inl rfl⟩
    obtain ⟨m, hm, hm2, hm3, hm4⟩ := k
    refine ⟨(by show 2 ≤ sizeLine; decide), fun tp ntp => ⟨tp, [.int 0, .int 1], rfl, .inl (.inl upd_same), rfl, .int 0, [.int 1], rfl, .int 1, [], rfl, rfl, ?_⟩⟩
    have G := G.same (same_new (o := .tup [.int 0, .int 1]) ntp)
    have Bn := But.new (But.refl b H) (o := .tup [.int 0, .int 1]) ntp
    refine ⟨.int n, rfl, _, _, rfl, rfl, ⟨by decide, by decide⟩, m, by show [V.int (n / 5)] = _; rw [hm], by omega, by omega, ?_⟩
    have em : ((m : Int)).toNat = m := rfl
    rw [em]
    refine for_range (lo := 0) (n := m) (fun i σ H' => ∃ (x sz : Int) (y : Option V), σ = [some (.ref b), some (.int n), some (.int x), some (.int sz), y] ∧ sz = 100000 ^ i ∧ 0 ≤ x ∧ x < sz ∧ Bag H' b ∧ But b H H')
      ⟨0, 1, none, rfl, rfl, by decide, by decide, G, Bn⟩ ?_ ?_
    · rintro i σ H1 hi ⟨x, sz, y, rfl, hs, x0, x1, G1, B1⟩
      have hs2 : sz = 1 ∨ sz = 100000 := by
        rw [hs]
        rcases (show i = 0 ∨ i = 1 by omega) with rfl | rfl
        · exact .inl rfl
        · exact .inr rfl
      refine ⟨.int x, rfl, .ref b, rfl, b, 100000, rfl, G1, by decide, by decide, fun H2 r r0 r1 G2 B2 => ?_⟩
      refine ⟨.int sz, rfl, _, _, rfl, rfl, .inr (by omega), _, _, rfl, rfl, .int sz, rfl, _, _, rfl, rfl, .inr (by decide), _, _, _, rfl, ?_, ?_, ?_, G2, B1.trans B2⟩
      · rw [hs, Int.pow_succ]
      · rcases hs2 with rfl | rfl <;> omega
      · rcases hs2 with rfl | rfl <;> omega
    · rintro σ H1 ⟨x, sz, y, rfl, hs, x0, x1, G1, B1⟩
      have hs2 : sz = 100000 ∨ sz = 10000000000 := by
        rw [hs]
        rcases (show m = 1 ∨ m = 2 by rcases hn with rfl | rfl <;> omega) with rfl | rfl
        · exact .inl rfl
        · exact .inr rfl
      refine ⟨fun σ' H' => ∃ (x : Int) (sz y : Option V), σ' = [some (.ref b), some (.int n), some (.int x), sz, y] ∧ 0 ≤ x ∧ x < 10000000000 ∧ Bag H' b ∧ But b H H', ?_, ?_⟩
      · refine ⟨.int n, rfl, .inl ⟨n, rfl, _, _, rfl, rfl, (by show (0 : Int) < 5; decide), _, _, rfl, rfl, _, rfl, ?_⟩⟩
        refine ite2 (fun e => ?_) (fun e => ?_)
        · have e4 : n % 5 = 4 := by
            have := of_decide_eq_true e
            omega
          have m1 : m = 1 := by omega
          have s1 : sz = 100000 := by
            rw [hs, m1]
            rfl
          refine ⟨.int x, rfl, .ref b, rfl, (by show 5 ≤ sizeLine; decide), fun t nt => ?_⟩
          refine ⟨.int n, rfl, .inl ⟨n, rfl, _, _, rfl, rfl, (by show (0 : Int) < 5; decide), t, _, _, .int 10000, rfl, rfl, .inl (.inl upd_same), ?_, b, 10000, rfl, G1.same (same_new nt), by decide, by decide, fun H2 r r0 r1 G2 B2 => ?_⟩⟩
          · rw [e4]
            rfl
          · refine ⟨.int sz, rfl, _, _, rfl, rfl, .inr (by omega), _, _, rfl, rfl, _, some (.int sz), y, rfl, ?_, ?_, G2, (B1.new nt).trans B2⟩
            · rw [s1]
              omega
            · rw [s1] at x1 ⊢
              omega
        · refine ⟨x, some (.int sz), y, rfl, x0, ?_, G1, B1⟩
          rcases hs2 with h | h <;> omega
      · rintro σ' H2 ⟨x2, sz2, y2, rfl, x20, x21, G2, B2⟩
        exact ⟨_, rfl, q _ _ x20 x21 G2 B2⟩
theorem ok_pair (D : DefT K mg "_law_pair" sPair) (B : Bl mg) : CPair P w K mg base := by
  refine D.call scPair (fun vs H Q E h => ?_) (fun _ _ _ _ _ _ us hl => match us, hl with | [_, _], _ => rfl) (fun f cdv A outer s H vs Q E hr h => ?_)
  · obtain ⟨a, b, rfl, _⟩ := h
    rfl
  · refine ⟨_, (pss_cons (ps_par (i := 2) (j := 3) rfl scPair.nd rfl rfl (by decide) rfl rfl (pa_cons (pv 0) (pa_cons (pv 1) pa_nil)) (by with_unfolding_all rfl))
 (pss_cons (ps_while PassesOwn.never (pt_cmpR op_gt (pv 3) pe_int (nomark _))
 (pss_one (ps_par (i := 2) (j := 3) rfl scPair.nd rfl rfl (by decide) rfl rfl (pa_cons (pv 3) (pa_cons (pe_op op_mod (pe_callTy call_int1 (by rfl) B.int boot_int (pa_cons (pv 2) pa_nil)) (pv 3)) pa_nil)) (by with_unfolding_all rfl))))
 (pss_one (ps_ret (pe_tup (pa_cons (pe_op op_fdivW (pv 0) (pv 2)) (pa_cons (pe_op op_fdivW (pv 1) (pv 2)) pa_nil))))))), ?_⟩
    obtain ⟨a, b, rfl, b0, b1, q⟩ := h
    refine ⟨.int a, rfl, .int b, rfl, _, _, rfl, ?_⟩
    refine ⟨fun n σ H' => ∃ (x y : Int), σ = [some (.int a), some (.int b), some (.int x), some (.int y)] ∧ n = y.toNat ∧ 0 ≤ y ∧ y < big ∧ (y = 0 → 0 < x ∧ x < big) ∧ H' = H, ⟨_, a, b, rfl, rfl, by omega, b1, fun e => by omega, rfl⟩, ?_⟩
    rintro n σ H' ⟨x, y, rfl, rfl, y0, y1, hx, rfl⟩
    refine ⟨.int y, rfl, _, _, rfl, rfl, _, rfl, ?_⟩
    refine ite2 (fun e => ?_) (fun e => ?_)
    · have hy : 0 < y := of_decide_eq_true e
      refine ⟨fun σ H' => ∃ (x' y' : Int), σ = [some (.int a), some (.int b), some (.int x'), some (.int y')] ∧ 0 ≤ y' ∧ y' < y ∧ (y' = 0 → 0 < x' ∧ x' < big) ∧ H' = _, fun σ' H1 ⟨x', y', e1, e2, e3, e4, e5⟩ => ⟨y'.toNat, by omega, x', y', e1, rfl, e2, by omega, e4, e5⟩, ?_⟩
      exact ⟨.int y, rfl, .int x, rfl, .inl ⟨x, rfl, .int y, rfl, _, _, rfl, rfl, hy, _, _, rfl, y, _, rfl, (modP hy).1, (modP hy).2, fun _ => ⟨hy, y1⟩, rfl⟩⟩
    · have hy : y = 0 := by
        have : ¬ (0 : Int) < y := fun h => e (decide_eq_true h)
        omega
      obtain ⟨x0, x1⟩ := hx hy
      have hd : CDivW a x := wide_div (b := 200) x0 (by unfold big at x1; omega) (by decide) (by decide)
      refine ⟨.int a, rfl, .int x, rfl, _, _, rfl, rfl, hd, .int b, rfl, .int x, rfl, _, _, rfl, rfl, hd, (by show 2 ≤ sizeLine; decide), fun p hp => q p _ _ hp⟩
theorem ok_great (D : DefT K mg "_law_great" sGreat) (B : Bl mg) (C_law_draw : CDraw P w K mg base) (C_law_wide : CWide P w K mg base) (C_law_of : COf P w K mg base) : CGreat P w K mg base := by
  refine D.call scGreat (fun vs H Q E h => ?_) (fun _ _ _ _ _ _ us hl => match us, hl with | [_], _ => rfl) (fun f cdv A outer s H vs Q E hr h => ?_)
  · obtain ⟨b, rfl, _⟩ := h
    rfl
  · refine ⟨_, (pss_cons (ps_set (i := 1) scGreat.nd rfl (.inl rfl) (pe_callD C_law_wide hr (by omega) (by rfl) (pa_cons (pv 0) (pa_cons pe_int pa_nil))))
 (pss_cons (ps_set (i := 2) scGreat.nd rfl (.inl rfl) (pe_callD C_law_wide hr (by omega) (by rfl) (pa_cons (pv 0) (pa_cons pe_int pa_nil))))
 (pss_cons (ps_set (i := 3) scGreat.nd rfl (.inl rfl) (pe_callD C_law_wide hr (by omega) (by rfl) (pa_cons (pv 0) (pa_cons pe_int pa_nil))))
 (pss_one (ps_ret (pe_callD C_law_of hr (by omega) (by rfl) (pa_cons (pv 0) (pa_cons (pe_lst (pa_cons (pv 1) (pa_cons (pe_op op_add (pe_op op_mul (pv 1) (pe_op op_pow pe_int pe_int)) (pv 2)) (pa_cons (pe_op op_add (pe_op op_mul (pe_op op_add (pe_op op_mul (pv 1) (pe_op op_pow pe_int pe_int)) (pv 2)) (pe_op op_pow pe_int pe_int)) (pv 3)) (pa_cons (pe_op op_add (pe_op op_mul (pe_op op_add (pe_op op_mul (pe_op op_add (pe_op op_mul (pv 1) (pe_op op_pow pe_int pe_int)) (pv 2)) (pe_op op_pow pe_int pe_int)) (pv 3)) (pe_op op_pow pe_int pe_int)) (pe_callD C_law_draw hr (by omega) (by rfl) (pa_cons (pv 0) (pa_cons (pe_op op_pow pe_int pe_int) pa_nil)))) pa_nil))))) pa_nil)))))))), ?_⟩
    obtain ⟨b, rfl, G, q⟩ := h
    have w : (10 : Int) ^ (10 : Int).toNat = 10000000000 := by decide
    refine ⟨.ref b, rfl, b, 10, rfl, .inr rfl, G, fun H1 x x0 x1 G1 B1 => ?_⟩
    refine ⟨.ref b, rfl, b, 10, rfl, .inr rfl, G1, fun H2 y y0 y1 G2 B2 => ?_⟩
    refine ⟨.ref b, rfl, b, 10, rfl, .inr rfl, G2, fun H3 z z0 z1 G3 B3 => ?_⟩
    have B' := (B1.trans B2).trans B3
    have pw : ∀ i : Int, CMul i (10 ^ (10 : Int).toNat) := fun i => .inr (by rw [w]; decide)
    refine ⟨.ref b, rfl, .int x, rfl, ?_⟩
    refine ⟨.int x, rfl, _, _, rfl, rfl, ⟨by decide, by decide, by decide⟩, _, _, rfl, rfl, pw _, .int y, rfl, _, _, rfl, rfl, ?_⟩
    refine ⟨.int x, rfl, _, _, rfl, rfl, ⟨by decide, by decide, by decide⟩, _, _, rfl, rfl, pw _, .int y, rfl, _, _, rfl, rfl, _, _, rfl, rfl, ⟨by decide, by decide, by decide⟩, _, _, rfl, rfl, pw _, .int z, rfl, _, _, rfl, rfl, ?_⟩
    refine ⟨.int x, rfl, _, _, rfl, rfl, ⟨by decide, by decide, by decide⟩, _, _, rfl, rfl, pw _, .int y, rfl, _, _, rfl, rfl, _, _, rfl, rfl, ⟨by decide, by decide, by decide⟩, _, _, rfl, rfl, pw _, .int z, rfl, _, _, rfl, rfl, _, _, rfl, rfl, ⟨by decide, by decide, by decide⟩, _, _, rfl, rfl, .inr (by decide), ?_⟩
    refine ⟨.ref b, rfl, _, _, rfl, rfl, ⟨by decide, by decide, by decide⟩, b, _, rfl, G3, by decide, by decide, fun H4 r r0 r1 G4 B4 => ?_⟩
    refine ⟨_, _, rfl, rfl, (by show 4 ≤ sizeLine; decide), fun t nt => ?_⟩
    have r1' : r < 10000 := r1
    have ntb : t ≠ b := fun e => by
      obtain ⟨l, ns, i, lf, sd, ct, Z⟩ := G4
      rw [e, Z.hb] at nt
      cases nt
    refine ⟨b, G4.same (same_new nt), .inl ⟨t, _, rfl, upd_same, ntb, List.cons_ne_nil _ _, (by show 4 ≤ 1000; decide), fun H5 v hv G5 B5 => ?_⟩⟩
    rw [w] at hv
    have BB := ((B'.trans B4).new nt).trans B5
    have w4 : (10 : Int) ^ (4 : Int).toNat = 10000 := by decide
    rw [w4] at hv
    simp only [List.mem_cons, List.not_mem_nil, or_false] at hv
    rcases hv with rfl | rfl | rfl | rfl
    · exact q _ _ (by omega) (by unfold big; omega) G5 BB
    · exact q _ _ (by omega) (by unfold big; omega) G5 BB
    · exact q _ _ (by omega) (by unfold big; omega) G5 BB
    · exact q _ _ (by omega) (by unfold big; omega) G5 BB
end
end K70
set_option maxRecDepth 100000
set_option maxHeartbeats 4000000
namespace K70
open PySem PySem.Spec PyProof.Rows L2
abbrev sAmount : Stmt := topS 43
abbrev sOdd : Stmt := topS 44
abbrev sWord : Stmt := topS 45
theorem scAmount : FnScope ["_law_bag_here", "_law_shape"] ["_law_bag_here"] (defScope sAmount) := ⟨rfl, rfl, rfl, by decide +kernel, rfl, by decide +kernel, by decide +kernel⟩
theorem scOdd : FnScope ["_law_bag_here", "_law_some"] ["_law_bag_here"] (defScope sOdd) := ⟨rfl, rfl, rfl, by decide +kernel, rfl, by decide +kernel, by decide +kernel⟩
theorem scWord : FnScope ["_law_bag_here", "_law_many", "_law_k"] ["_law_bag_here"] (defScope sWord) := ⟨rfl, rfl, rfl, by decide +kernel, rfl, by decide +kernel, by decide +kernel⟩
theorem boot_max : bootBuiltins "max" = some (.builtin "max") := by decide +kernel
/-! ### data: what is no bag -/
def Dat (b : Addr) (H : Hp) : Nat → V → Prop
  | 0, v => flatV v = true
  | d + 1, v => flatV v = true ∨ ∃ a xs, v = .ref a ∧ a ≠ b ∧ (H a = some (.lst xs) ∨ H a = some (.tup xs)) ∧ xs.length ≤ 100 ∧ ∀ x ∈ xs, Dat b H d x
theorem Dat.but {b : Addr} {H H' : Hp} (h : But b H H') : ∀ {d : Nat} {v : V}, Dat b H d v → Dat b H' d v
  | 0, _, x => x
  | d + 1, v, x => by
    rcases x with x | ⟨a, xs, e, n, z, l, m⟩
    · exact .inl x
    · refine .inr ⟨a, xs, e, n, ?_, l, fun y hy => Dat.but h (m y hy)⟩
      rcases z with z | z
      · exact .inl (h.run _ _ n z)
      · exact .inr (h.run _ _ n z)
theorem Dat.flat {b : Addr} {H : Hp} {d : Nat} {v : V} (h : flatV v = true) : Dat b H d v := by
  cases d with
  | zero => exact h
  | succ d => exact .inl h
theorem Dat.up {b : Addr} {H : Hp} : ∀ {d : Nat} {v : V}, Dat b H d v → Dat b H (d + 1) v
  | 0, _, x => .inl x
  | d + 1, v, x => by
    rcases x with x | ⟨a, xs, e, n, z, l, m⟩
    · exact .inl x
    · exact .inr ⟨a, xs, e, n, z, l, fun y hy => Dat.up (m y hy)⟩
/-! ### written values -/
inductive Lit where
  | non | bl (b : Bool) | int (i : Int) | neg (i : Int) | str (x : Str) | tup (xs : Lit) | lst (xs : Lit) | nil | cons (x r : Lit)
def Lit.of : List Lit → Lit
  | [] => .nil
  | x :: r => .cons x (Lit.of r)
/-- the reading of a value, that of a row of values -/
def Lit.rd : Lit → TE × TA
  | .non => (tC .non, tNil)
  | .bl b => (tC (.bl b), tNil)
  | .int i => (tC (.int i), tNil)
  | .neg i => (tUn (rU fun i => .int (-i)) (tC (.int i)), tNil)
  | .str x => (tC (.str x), tNil)
  | .tup xs => (tTup xs.rd.2, tNil)
  | .lst xs => (tLst xs.rd.2, tNil)
  | .nil => (tC .non, tNil)
  | .cons x r => (tC .non, tCons x.rd.1 r.rd.2)
def Lit.len : Lit → Nat
  | .cons _ r => r.len + 1
  | _ => 0
/-- (a value of this depth, a row of such) -/
def Lit.ok : Lit → Nat → Bool × Bool
  | .non, _ => (true, false)
  | .bl _, _ => (true, false)
  | .int _, _ => (true, false)
  | .neg _, _ => (true, false)
  | .str _, _ => (true, false)
  | .tup xs, d => (match d with | 0 => false | d + 1 => decide (xs.len ≤ 100) && (xs.ok d).2, false)
  | .lst xs, d => (match d with | 0 => false | d + 1 => decide (xs.len ≤ 100) && (xs.ok d).2, false)
  | .nil, _ => (false, true)
  | .cons x r, d => (false, (x.ok d).1 && (r.ok d).2)
theorem small100 {n : Nat} (h : n ≤ 100) : n ≤ sizeLine := Nat.le_trans h (by decide)
theorem ne_bag {b p : Addr} {H H' : Hp} (hb : ∃ o, H b = some o) (s : Same H H') (hp : H' p = none) : p ≠ b := fun e => by
  obtain ⟨o, ho⟩ := hb
  rw [e, s _ _ ho] at hp
  cases hp
theorem Lit.run (b : Addr) : ∀ (x : Lit) (d : Nat) (σ : L2.St) (H : Hp), (∃ o, H b = some o) →
    ((x.ok d).1 = true → ∀ Q : VK, (∀ H' v, Same H H' → Dat b H' d v → Q v H') → x.rd.1 σ H Q) ∧
    ((x.ok d).2 = true → ∀ Q : List V → Hp → Prop, (∀ H' vs, Same H H' → vs.length = x.len → (∀ v ∈ vs, Dat b H' d v) → Q vs H') → x.rd.2 σ H Q) := by
  intro x
  induction x with
  | non => exact fun d σ H _ => ⟨fun _ Q q => q H _ (Same.refl H) (Dat.flat rfl), fun h => nomatch h⟩
  | bl c => exact fun d σ H _ => ⟨fun _ Q q => q H _ (Same.refl H) (Dat.flat rfl), fun h => nomatch h⟩
  | int i => exact fun d σ H _ => ⟨fun _ Q q => q H _ (Same.refl H) (Dat.flat rfl), fun h => nomatch h⟩
  | neg i =>
    refine fun d σ H _ => ⟨fun _ Q q => ?_, fun h => nomatch h⟩
    exact ⟨i, rfl, q H _ (Same.refl H) (Dat.flat rfl)⟩
  | str z => exact fun d σ H _ => ⟨fun _ Q q => q H _ (Same.refl H) (Dat.flat rfl), fun h => nomatch h⟩
  | nil => exact fun d σ H _ => ⟨fun h => (nomatch h), fun _ Q q => q H [] (Same.refl H) rfl fun v hv => absurd hv (by simp)⟩
  | cons x r ihx ihr =>
    refine fun d σ H hb => ⟨fun h => (nomatch h), fun h Q q => ?_⟩
    obtain ⟨h3, h4⟩ := Bool.and_eq_true_iff.mp (show ((x.ok d).1 && (r.ok d).2) = true from h)
    show tCons x.rd.1 r.rd.2 σ H Q
    refine (ihx d σ H hb).1 h3 _ fun H1 v s1 m1 => ?_
    obtain ⟨o, ho⟩ := hb
    refine (ihr d σ H1 ⟨o, s1 _ _ ho⟩).2 h4 _ fun H2 vs s2 l m2 => q _ _ (s1.trans s2) ?_ fun y hy => ?_
    · rw [List.length_cons, l]
      rfl
    rcases List.mem_cons.mp hy with rfl | hy
    · exact m1.but (Same.but s2)
    · exact m2 y hy
  | tup xs ih =>
    refine fun d σ H hb => ⟨fun h Q q => ?_, fun h => nomatch h⟩
    cases d with
    | zero => exact nomatch h
    | succ d =>
      obtain ⟨h3, h4⟩ := Bool.and_eq_true_iff.mp (show (decide (xs.len ≤ 100) && (xs.ok d).2) = true from h)
      show tTup xs.rd.2 σ H Q
      refine (ih d σ H hb).2 h4 _ fun H' vs s l m => ⟨by rw [l]; exact small100 (of_decide_eq_true h3), fun p hp => ?_⟩
      exact q _ _ (s.trans (same_new hp)) (.inr ⟨p, vs, rfl, ne_bag hb s hp, .inr upd_same, by rw [l]; exact of_decide_eq_true h3, fun v hv => (m v hv).but (Same.but (same_new hp))⟩)
  | lst xs ih =>
    refine fun d σ H hb => ⟨fun h Q q => ?_, fun h => nomatch h⟩
    cases d with
    | zero => exact nomatch h
    | succ d =>
      obtain ⟨h3, h4⟩ := Bool.and_eq_true_iff.mp (show (decide (xs.len ≤ 100) && (xs.ok d).2) = true from h)
      show tLst xs.rd.2 σ H Q
      refine (ih d σ H hb).2 h4 _ fun H' vs s l m => ⟨by rw [l]; exact small100 (of_decide_eq_true h3), fun p hp => ?_⟩
      exact q _ _ (s.trans (same_new hp)) (.inr ⟨p, vs, rfl, ne_bag hb s hp, .inl upd_same, by rw [l]; exact of_decide_eq_true h3, fun v hv => (m v hv).but (Same.but (same_new hp))⟩)
/-- a written list is laid -/
theorem Lit.list {b : Addr} (xs : Lit) {d : Nat} {σ : L2.St} {H : Hp} {Q : VK} (h : (xs.ok d).2 = true) (hl : xs.len ≤ 100) (hb : ∃ o, H b = some o)
    (q : ∀ H' p vs, Same H H' → H p = none → p ≠ b → H' p = some (.lst vs) → vs.length = xs.len → (∀ v ∈ vs, Dat b H' d v) → Q (.ref p) H') : tLst xs.rd.2 σ H Q := by
  refine (Lit.run b xs d σ H hb).2 h _ fun H' vs s l m => ⟨by rw [l]; exact small100 hl, fun p hp => ?_⟩
  exact q _ p vs (s.trans (same_new hp)) (s.free hp) (ne_bag hb s hp) upd_same l fun v hv => (m v hv).but (Same.but (same_new hp))
theorem Bag.there {H : Hp} {b : Addr} (B : Bag H b) : ∃ o, H b = some o := by
  obtain ⟨l, ns, i, left, seed, cnt, Z⟩ := B
  exact ⟨_, Z.hb⟩
theorem seq_i {t u : TS} {D : Ends} {σ : L2.St} {H : Hp} (h : t { D with nx := u D } σ H) : tSeq t u D σ H := h
theorem asg_i {te : TE} {g : TG} {D : Ends} {σ : L2.St} {H : Hp} (h : te σ H fun x H1 => g x σ H1 D.nx) : tAsg te g D σ H := h
theorem ret_i {te : TE} {D : Ends} {σ : L2.St} {H : Hp} (h : te σ H D.rt) : tRet te D σ H := h
theorem drop_i {te : TE} {D : Ends} {σ : L2.St} {H : Hp} (h : te σ H fun _ H1 => D.nx σ H1) : tDrop te D σ H := h
def spDat (d : Nat) : Sp := fun vs H Q _ => ∃ (b : Addr), vs = [.ref b] ∧ Bag H b ∧ ∀ H' v, Dat b H' d v → Bag H' b → But b H H' → Q v H'
/-- .. while a list at p, new over H, grows -/
structure ButP (b p : Addr) (H H' : Hp) : Prop where
  run : ∀ a o, a ≠ b → a ≠ p → H a = some o → H' a = some o
  fst : ∀ l xs, H b = some (.lst (.ref l :: xs)) → ∃ ys, H' b = some (.lst (.ref l :: ys))
theorem ButP.new {b p : Addr} {H : Hp} {o : HO} (np : H p = none) : ButP b p H (upd H p o) :=
  ⟨fun a u _ n h => by rw [upd_ne n]; exact h, fun l xs h => ⟨xs, by rw [upd_ne (ne_of_none h np)]; exact h⟩⟩
theorem ButP.but {b p : Addr} {H H' : Hp} (x : ButP b p H H') (np : H p = none) (npb : p ≠ b) : But b H H' :=
  ⟨fun a o n h => x.run a o n (ne_of_none h np) h, x.fst⟩
theorem ButP.app {b p : Addr} {H H1 H2 : Hp} {o : HO} (x : ButP b p H H1) (np : H p = none) (npb : p ≠ b) (y : But b H1 H2) : ButP b p H (upd H2 p o) :=
  ⟨fun a u n n2 h => by rw [upd_ne n2]; exact y.run a u n (x.run a u n n2 h), fun l xs h => by
    obtain ⟨ys, e⟩ := x.fst l xs h
    obtain ⟨zs, e2⟩ := y.fst l ys e
    exact ⟨zs, by rw [upd_ne (Ne.symm npb)]; exact e2⟩⟩
theorem ButP.bag {b p : Addr} {H H1 H2 : Hp} {o : HO} (x : ButP b p H H1) (G : Bag H b) (np : H p = none) (npb : p ≠ b) (G2 : Bag H2 b) (y : But b H1 H2) : Bag (upd H2 p o) b := by
  obtain ⟨l, ns, i, left, seed, cnt, Z⟩ := G
  obtain ⟨l2, ns2, i2, left2, seed2, cnt2, Z2⟩ := G2
  obtain ⟨ys, e⟩ := x.fst l _ Z.hb
  obtain ⟨zs, e2⟩ := y.fst l ys e
  have el : l2 = l := by
    have z := Z2.hb
    rw [e2] at z
    cases z
    rfl
  subst el
  have nl : l2 ≠ p := ne_of_none Z.hl np
  exact ⟨l2, ns2, i2, left2, seed2, cnt2, by rw [upd_ne (Ne.symm npb)]; exact Z2.hb, by rw [upd_ne nl]; exact Z2.hl, Z2.ne, Z2.hi, Z2.h0, Z2.s0, Z2.s1⟩
section
variable {P : Program} {w : World} {K : PySem.W.Frag} {mg : Str → Option Value} {base : Heap}
theorem ok_odd (D : DefT K mg "_law_odd" sOdd) (B : Bl mg) (C_law_of : COf P w K mg base) : Call1 P w K mg base "_law_odd" 3 ["_law_bag_here"] (spDat 4) := by
  refine D.call scOdd (fun vs H Q E h => ?_) (fun _ _ _ _ _ _ us hl => match us, hl with | [_], _ => rfl) (fun f cdv A outer s H vs Q E hr h => ?_)
  · obtain ⟨b, rfl, _⟩ := h
    rfl
  · refine ⟨_, (pss_cons (ps_set (i := 1) scOdd.nd rfl (.inl rfl) (pe_lst (pa_cons pe_non (pa_cons pe_bl (pa_cons pe_bl (pa_cons pe_int (pa_cons pe_int (pa_cons (pe_un un_neg pe_int) (pa_cons pe_int (pa_cons pe_str (pa_cons pe_str (pa_cons pe_str (pa_cons pe_str (pa_cons (pe_tup pa_nil) (pa_cons (pe_tup (pa_cons pe_int pa_nil)) (pa_cons (pe_tup (pa_cons pe_int (pa_cons pe_int pa_nil))) (pa_cons (pe_tup (pa_cons pe_int (pa_cons pe_int pa_nil))) (pa_cons (pe_lst (pa_cons pe_int (pa_cons pe_int pa_nil))) (pa_cons (pe_tup (pa_cons pe_int (pa_cons pe_int pa_nil))) (pa_cons (pe_tup (pa_cons pe_int (pa_cons pe_int pa_nil))) pa_nil))))))))))))))))))))
 (pss_cons (ps_set (i := 1) scOdd.nd rfl (.inl rfl) (pe_op op_cat (pv 1) (pe_lst (pa_cons (pe_tup (pa_cons pe_int (pa_cons pe_int pa_nil))) (pa_cons (pe_tup (pa_cons (pe_un un_neg pe_int) (pa_cons pe_int pa_nil))) (pa_cons (pe_tup (pa_cons pe_bl (pa_cons pe_int pa_nil))) (pa_cons (pe_tup (pa_cons pe_int (pa_cons pe_bl pa_nil))) (pa_cons (pe_tup (pa_cons pe_str (pa_cons pe_int pa_nil))) (pa_cons (pe_tup (pa_cons (pe_tup (pa_cons pe_int (pa_cons pe_int pa_nil))) (pa_cons (pe_tup (pa_cons pe_int (pa_cons pe_int pa_nil))) pa_nil))) (pa_cons (pe_tup (pa_cons (pe_tup (pa_cons pe_int (pa_cons pe_int pa_nil))) (pa_cons (pe_tup (pa_cons pe_int (pa_cons pe_int pa_nil))) pa_nil))) (pa_cons (pe_tup (pa_cons pe_non (pa_cons pe_non pa_nil))) pa_nil)))))))))))
 (pss_cons (ps_set (i := 1) scOdd.nd rfl (.inl rfl) (pe_op op_cat (pv 1) (pe_lst (pa_cons (pe_tup (pa_cons pe_int (pa_cons pe_int (pa_cons pe_int pa_nil)))) (pa_cons (pe_lst pa_nil) (pa_cons (pe_lst (pa_cons (pe_tup pa_nil) pa_nil)) (pa_cons (pe_lst (pa_cons (pe_tup (pa_cons pe_int (pa_cons pe_int pa_nil))) (pa_cons (pe_tup (pa_cons pe_int (pa_cons pe_int pa_nil))) pa_nil))) (pa_cons (pe_tup (pa_cons (pe_tup (pa_cons pe_int (pa_cons pe_int pa_nil))) (pa_cons (pe_lst (pa_cons pe_int (pa_cons pe_int pa_nil))) pa_nil))) (pa_cons (pe_tup (pa_cons (pe_tup (pa_cons pe_int (pa_cons pe_int pa_nil))) pa_nil)) (pa_cons (pe_tup (pa_cons (pe_tup (pa_cons (pe_tup (pa_cons pe_int (pa_cons pe_int pa_nil))) (pa_cons pe_int pa_nil))) (pa_cons (pe_lst (pa_cons pe_int (pa_cons (pe_tup (pa_cons pe_non pa_nil)) pa_nil))) pa_nil))) (pa_cons (pe_un un_neg pe_int) pa_nil)))))))))))
 (pss_cons (ps_set (i := 1) scOdd.nd rfl (.inl rfl) (pe_op op_cat (pv 1) (pe_lst (pa_cons (pe_tup (pa_cons pe_int (pa_cons (pe_un un_neg pe_int) pa_nil))) (pa_cons (pe_tup (pa_cons pe_int (pa_cons pe_int pa_nil))) (pa_cons (pe_tup (pa_cons (pe_tup (pa_cons pe_int (pa_cons pe_int pa_nil))) (pa_cons (pe_tup (pa_cons pe_int (pa_cons pe_int pa_nil))) pa_nil))) (pa_cons (pe_tup (pa_cons (pe_tup (pa_cons pe_int (pa_cons pe_int pa_nil))) (pa_cons (pe_tup (pa_cons pe_int (pa_cons pe_int pa_nil))) pa_nil))) (pa_cons pe_str (pa_cons pe_str (pa_cons (pe_tup (pa_cons pe_str pa_nil)) (pa_cons (pe_lst (pa_cons pe_str pa_nil)) (pa_cons (pe_tup (pa_cons pe_int (pa_cons pe_int pa_nil))) pa_nil))))))))))))
 (pss_one (ps_ret (pe_callD C_law_of hr (by omega) (by rfl) (pa_cons (pv 0) (pa_cons (pv 1) pa_nil))))))))), ?_⟩
    obtain ⟨b, rfl, G, q⟩ := h
    refine seq_i (asg_i (Lit.list (b := b) (d := 4) (Lit.of [.non, .bl true, .bl false, .int 0, .int 1, .neg 1, .int 7, .str "", .str "a", .str "4", .str "1/2", .tup (Lit.of []), .tup (Lit.of [.int 1]), .tup (Lit.of [.int 1, .int 1]), .tup (Lit.of [.int 3, .int 2]), .lst (Lit.of [.int 1, .int 1]), .tup (Lit.of [.int 2, .int 4]), .tup (Lit.of [.int 0, .int 2])]) rfl (by decide) G.there fun H1 p1 v1 s1 n1 e1 h1 l1 m1 => ?_))
    have G1 := G.same s1
    -- + [..]
    have step : ∀ (xs : Lit) (σ : L2.St) (H1 : Hp) (p1 : Addr) (v1 : List V) (Q1 : VK), (xs.ok 4).2 = true → xs.len ≤ 20 → σ[1]? = some (some (.ref p1)) → Bag H1 b → H1 p1 = some (.lst v1) → v1.length ≤ 60 → (∀ v ∈ v1, Dat b H1 4 v) →
        (∀ H2 p2 v2, Same H1 H2 → p2 ≠ b → H2 p2 = some (.lst v2) → v2.length = v1.length + xs.len → (∀ v ∈ v2, Dat b H2 4 v) → Q1 (.ref p2) H2) → tOp rCat (tVar 1) (tLst xs.rd.2) σ H1 Q1 := by
      intro xs σ H1 p1 v1 Q1 hx hxl hs G1 h1 l1 m1 q1
      refine ⟨_, hs, Lit.list (b := b) (d := 4) xs hx (by omega) G1.there fun H2 p2 v2 s2 n2 e2 h2 l2 m2 => ?_⟩
      refine ⟨p1, p2, v1, v2, rfl, rfl, s2 _ _ h1, h2, small100 (by omega), fun p np => ?_⟩
      have npb : p ≠ b := fun e => by
        obtain ⟨o, ho⟩ := (G1.same s2).there
        rw [e, ho] at np
        cases np
      refine q1 _ p _ (s2.trans (same_new np)) npb upd_same (by rw [List.length_append, l2]) fun v hv => ?_
      rcases List.mem_append.mp hv with hv | hv
      · exact (m1 v hv).but (Same.but (s2.trans (same_new np)))
      · exact (m2 v hv).but (Same.but (same_new np))
    refine seq_i (asg_i (step (Lit.of [.tup (Lit.of [.int 1, .int 0]), .tup (Lit.of [.neg 1, .int 1]), .tup (Lit.of [.bl true, .int 1]), .tup (Lit.of [.int 1, .bl true]), .tup (Lit.of [.str "1", .int 1]), .tup (Lit.of [.tup (Lit.of [.int 1, .int 1]), .tup (Lit.of [.int 2, .int 1])]), .tup (Lit.of [.tup (Lit.of [.int 2, .int 1]), .tup (Lit.of [.int 1, .int 1])]), .tup (Lit.of [.non, .non])]) _ H1 p1 v1 _ rfl (by decide) rfl G1 h1 (by rw [l1]; decide) m1 fun H2 p2 v2 s2 e2 h2 l2 m2 => ?_))
    have G2 := G1.same s2
    refine seq_i (asg_i (step (Lit.of [.tup (Lit.of [.int 1, .int 1, .int 1]), .lst (Lit.of []), .lst (Lit.of [.tup (Lit.of [])]), .lst (Lit.of [.tup (Lit.of [.int 1, .int 1]), .tup (Lit.of [.int 2, .int 1])]), .tup (Lit.of [.tup (Lit.of [.int 1, .int 1]), .lst (Lit.of [.int 2, .int 1])]), .tup (Lit.of [.tup (Lit.of [.int 1, .int 1])]), .tup (Lit.of [.tup (Lit.of [.tup (Lit.of [.int 1, .int 2]), .int 3]), .lst (Lit.of [.int 4, .tup (Lit.of [.non])])]), .neg 1000]) _ H2 p2 v2 _ rfl (by decide) rfl G2 h2 (by rw [l2, l1]; decide) m2 fun H3 p3 v3 s3 e3 h3 l3 m3 => ?_))
    have G3 := G2.same s3
    refine seq_i (asg_i (step (Lit.of [.tup (Lit.of [.int 1, .neg 1]), .tup (Lit.of [.int 0, .int 0]), .tup (Lit.of [.tup (Lit.of [.int 0, .int 1]), .tup (Lit.of [.int 4, .int 2])]), .tup (Lit.of [.tup (Lit.of [.int 1, .int 1]), .tup (Lit.of [.int 1, .int 1])]), .str "own", .str "level", .tup (Lit.of [.str "a"]), .lst (Lit.of [.str "a"]), .tup (Lit.of [.int 1000, .int 1])]) _ H3 p3 v3 _ rfl (by decide) rfl G3 h3 (by rw [l3, l2, l1]; decide) m3 fun H4 p4 v4 s4 e4 h4 l4 m4 => ?_))
    have G4 := G3.same s4
    have l4' : v4.length = 43 := by rw [l4, l3, l2, l1]; rfl
    refine ⟨.ref b, rfl, .ref p4, rfl, b, G4, .inl ⟨p4, v4, rfl, h4, e4, (fun e => by rw [e] at l4'; cases l4'), (by omega), fun H5 v hv G5 B5 => ?_⟩⟩
    exact q _ _ ((m4 v hv).but B5) G5 (((Same.but (s1.trans (s2.trans (s3.trans s4)))).trans B5))
theorem ok_amount (D : DefT K mg "_law_amount" sAmount) (B : Bl mg) (C_law_draw : CDraw P w K mg base) (C_law_wide : CWide P w K mg base) (C_law_of : COf P w K mg base) (C_law_pair : CPair P w K mg base) (C_law_great : CGreat P w K mg base) :
    Call1 P w K mg base "_law_amount" 4 ["_law_bag_here"] (spDat 4) := by
  refine D.call scAmount (fun vs H Q E h => ?_) (fun _ _ _ _ _ _ us hl => match us, hl with | [_], _ => rfl) (fun f cdv A outer s H vs Q E hr h => ?_)
  · obtain ⟨b, rfl, _⟩ := h
    rfl
  · refine ⟨_, (pss_cons (ps_set (i := 1) scAmount.nd rfl (.inl rfl) (pe_callD C_law_draw hr (by omega) (by rfl) (pa_cons (pv 0) (pa_cons pe_int pa_nil))))
 (pss_cons (ps_if (pt_cmpR op_eq (pv 1) pe_int (nomark _))
 (pss_one (ps_ret (pe_callD C_law_of hr (by omega) (by rfl) (pa_cons (pv 0) (pa_cons (pe_lst (pa_cons (pe_tup (pa_cons pe_int (pa_cons pe_int pa_nil))) (pa_cons (pe_tup (pa_cons pe_int (pa_cons pe_int pa_nil))) (pa_cons (pe_tup (pa_cons pe_int (pa_cons pe_int pa_nil))) (pa_cons (pe_tup (pa_cons pe_int (pa_cons pe_int pa_nil))) (pa_cons (pe_tup (pa_cons pe_int (pa_cons pe_int pa_nil))) (pa_cons (pe_tup (pa_cons pe_int (pa_cons pe_int pa_nil))) (pa_cons (pe_tup (pa_cons pe_int (pa_cons pe_int pa_nil))) (pa_cons (pe_tup (pa_cons pe_int (pa_cons pe_int pa_nil))) (pa_cons (pe_tup (pa_cons pe_int (pa_cons pe_int pa_nil))) pa_nil)))))))))) pa_nil)))))
 pss_nil)
 (pss_cons (ps_if (pt_cmpR op_lt (pv 1) pe_int (nomark _))
 (pss_one (ps_ret (pe_callD C_law_pair hr (by omega) (by rfl) (pa_cons (pe_callD C_law_draw hr (by omega) (by rfl) (pa_cons (pv 0) (pa_cons pe_int pa_nil))) (pa_cons (pe_op op_add pe_int (pe_callD C_law_draw hr (by omega) (by rfl) (pa_cons (pv 0) (pa_cons pe_int pa_nil)))) pa_nil)))))
 pss_nil)
 (pss_cons (ps_if (pt_cmpR op_eq (pv 1) pe_int (nomark _))
 (pss_one (ps_ret (pe_callD C_law_pair hr (by omega) (by rfl) (pa_cons (pe_callD C_law_wide hr (by omega) (by rfl) (pa_cons (pv 0) (pa_cons pe_int pa_nil))) (pa_cons (pe_op op_add pe_int (pe_callD C_law_draw hr (by omega) (by rfl) (pa_cons (pv 0) (pa_cons (pe_op op_sub (pe_op op_pow pe_int pe_int) pe_int) pa_nil)))) pa_nil)))))
 pss_nil)
 (pss_cons (ps_if (pt_cmpR op_eq (pv 1) pe_int (nomark _))
 (pss_one (ps_ret (pe_callD C_law_pair hr (by omega) (by rfl) (pa_cons (pe_callD C_law_great hr (by omega) (by rfl) (pa_cons (pv 0) pa_nil)) (pa_cons (pe_op op_add pe_int (pe_callD C_law_draw hr (by omega) (by rfl) (pa_cons (pv 0) (pa_cons pe_int pa_nil)))) pa_nil)))))
 pss_nil)
 (pss_one (ps_ret (pe_callD C_law_pair hr (by omega) (by rfl) (pa_cons (pe_callD C_law_great hr (by omega) (by rfl) (pa_cons (pv 0) pa_nil)) (pa_cons (pe_callB (call_max2 rfl) (by rfl) B.max boot_max (pa_cons pe_int (pa_cons (pe_callD C_law_great hr (by omega) (by rfl) (pa_cons (pv 0) pa_nil)) pa_nil))) pa_nil)))))))))), ?_⟩
    obtain ⟨b, rfl, G, q⟩ := h
    refine ⟨.ref b, rfl, b, 8, rfl, G, by decide, by decide, fun H1 k k0 k1 G1 B1 => ?_⟩
    -- a pair that is handed back
    have fin : ∀ (H2 : Hp), Bag H2 b → But b H H2 → ∀ (p : Addr) (u v : Int), H2 p = none → Q (.ref p) (upd H2 p (.tup [.int u, .int v])) := fun H2 G2 B2 p u v np => by
      have npb : p ≠ b := fun e => by
        obtain ⟨o, ho⟩ := G2.there
        rw [e, ho] at np
        cases np
      refine q _ _ (.inr ⟨p, _, rfl, npb, .inr upd_same, (by show 2 ≤ 100; decide), fun x hx => ?_⟩) (G2.same (same_new np)) (B2.new np)
      simp only [List.mem_cons, List.not_mem_nil, or_false] at hx
      rcases hx with rfl | rfl <;> exact Dat.flat rfl
    refine ⟨.int k, rfl, rfl, _, rfl, ?_⟩
    refine ite2 (fun e => ?_) (fun e => ?_)
    · refine ⟨.ref b, rfl, Lit.list (b := b) (d := 4) (Lit.of [.tup (Lit.of [.int 0, .int 1]), .tup (Lit.of [.int 1, .int 1]), .tup (Lit.of [.int 1000, .int 1]), .tup (Lit.of [.int 1, .int 12]), .tup (Lit.of [.int 999, .int 1]), .tup (Lit.of [.int 1001, .int 1]), .tup (Lit.of [.int 12001, .int 12]), .tup (Lit.of [.int 1, .int 13]), .tup (Lit.of [.int 2, .int 1])]) rfl (by decide) G1.there fun H2 p vs s2 n2 e2 h2 l2 m2 => ?_⟩
      exact ⟨b, G1.same s2, .inl ⟨p, vs, rfl, h2, e2, (fun z => by rw [z] at l2; cases l2), (by rw [l2]; decide), fun H3 v hv G3 B3 => q _ _ ((m2 v hv).but B3) G3 (B1.trans ((Same.but s2).trans B3))⟩⟩
    refine ⟨.int k, rfl, _, _, rfl, rfl, _, rfl, ?_⟩
    refine ite2 (fun e => ?_) (fun e => ?_)
    · refine ⟨.ref b, rfl, b, 40, rfl, G1, by decide, by decide, fun H2 x x0 x1 G2 B2 => ?_⟩
      refine ⟨.ref b, rfl, b, 12, rfl, G2, by decide, by decide, fun H3 y y0 y1 G3 B3 => ?_⟩
      exact ⟨_, _, rfl, rfl, x, 1 + y, rfl, by omega, by unfold big; omega, fin H3 G3 (B1.trans (B2.trans B3))⟩
    refine ⟨.int k, rfl, rfl, _, rfl, ?_⟩
    refine ite2 (fun e => ?_) (fun e => ?_)
    · refine ⟨.ref b, rfl, b, 9, rfl, .inl rfl, G1, fun H2 x x0 x1 G2 B2 => ?_⟩
      refine ⟨.ref b, rfl, _, _, rfl, rfl, ⟨by decide, by decide, by decide⟩, _, _, rfl, rfl, b, _, rfl, G2, by decide, by decide, fun H3 y y0 y1 G3 B3 => ?_⟩
      have y1' : y < 10 ^ (9 : Int).toNat - 1 := y1
      have w9 : (10 : Int) ^ (9 : Int).toNat = 1000000000 := by decide
      rw [w9] at y1'
      exact ⟨_, _, rfl, rfl, x, 1 + y, rfl, by omega, by unfold big; omega, fin H3 G3 (B1.trans (B2.trans B3))⟩
    refine ⟨.int k, rfl, rfl, _, rfl, ?_⟩
    refine ite2 (fun e => ?_) (fun e => ?_)
    · refine ⟨.ref b, rfl, b, rfl, G1, fun H2 x x0 x1 G2 B2 => ?_⟩
      refine ⟨.ref b, rfl, b, 12, rfl, G2, by decide, by decide, fun H3 y y0 y1 G3 B3 => ?_⟩
      exact ⟨_, _, rfl, rfl, x, 1 + y, rfl, by omega, by unfold big; omega, fin H3 G3 (B1.trans (B2.trans B3))⟩
    · refine ⟨.ref b, rfl, b, rfl, G1, fun H2 x x0 x1 G2 B2 => ?_⟩
      refine ⟨.ref b, rfl, b, rfl, G2, fun H3 y y0 y1 G3 B3 => ?_⟩
      refine ⟨1, y, rfl, x, _, rfl, ?_, ?_, fin H3 G3 (B1.trans (B2.trans B3))⟩
      · split <;> omega
      · split
        · exact y1
        · unfold big
          omega
theorem ok_word (D : DefT K mg "_law_word" sWord) (B : Bl mg) (C_law_draw : CDraw P w K mg base) (C_law_of : COf P w K mg base) : Call1 P w K mg base "_law_word" 3 ["_law_bag_here"] (spDat 4) := by
  refine D.call scWord (fun vs H Q E h => ?_) (fun _ _ _ _ _ _ us hl => match us, hl with | [_], _ => rfl) (fun f cdv A outer s H vs Q E hr h => ?_)
  · obtain ⟨b, rfl, _⟩ := h
    rfl
  · refine ⟨_, (pss_cons (ps_if (pt_cmpR op_eq (pe_callD C_law_draw hr (by omega) (by rfl) (pa_cons (pv 0) (pa_cons pe_int pa_nil))) pe_int (nomark _))
 (pss_one (ps_ret (pe_callD C_law_of hr (by omega) (by rfl) (pa_cons (pv 0) (pa_cons (pe_lst (pa_cons pe_str (pa_cons pe_str (pa_cons pe_str (pa_cons pe_str (pa_cons pe_str (pa_cons pe_str (pa_cons pe_str (pa_cons pe_str (pa_cons pe_str (pa_cons pe_str (pa_cons pe_str (pa_cons pe_str (pa_cons pe_str (pa_cons pe_str (pa_cons pe_str (pa_cons pe_str pa_nil))))))))))))))))) pa_nil)))))
 pss_nil)
 (pss_cons (ps_set (i := 1) scWord.nd rfl (.inl rfl) (pe_op op_add pe_int (pe_callD C_law_draw hr (by omega) (by rfl) (pa_cons (pv 0) (pa_cons pe_int pa_nil)))))
 (pss_one (ps_ret (pe_join pe_str (pe_lc (own := [("_law_k", 2)]) rfl scWord.nd (pi_range1 (by rfl) B.range (pa_cons (pv 1) pa_nil)) (blkOk_by (N := ["_law_bag_here", "_law_many", "_law_k"]) (sc := defScope sWord) (by decide +kernel)) (fun _ _ _ _ _ => (pg_name (i := 2) scWord.nd rfl (.inl rfl) (.inr rfl))) (fun _ _ _ _ _ => pts_nil) (fun _ _ _ _ _ => (pe_callD C_law_of hr (by omega) (by rfl) (pa_cons (pv 0) (pa_cons pe_str pa_nil)))))))))), ?_⟩
    obtain ⟨b, rfl, G, q⟩ := h
    refine ⟨.ref b, rfl, b, 3, rfl, G, by decide, by decide, fun H1 k k0 k1 G1 B1 => ⟨rfl, _, rfl, ?_⟩⟩
    refine ite2 (fun e => ?_) (fun e => ?_)
    · refine ⟨.ref b, rfl, Lit.list (b := b) (d := 4) (Lit.of [.str "a", .str "b", .str "own", .str "end", .str "gone", .str "wish", .str "over", .str "link", .str "flow", .str "house", .str "true", .str "level", .str "zzzzzz", .str "self", .str "none", .str "top"]) rfl (by decide) G1.there fun H2 p vs s2 n2 e2 h2 l2 m2 => ?_⟩
      exact ⟨b, G1.same s2, .inl ⟨p, vs, rfl, h2, e2, (fun z => by rw [z] at l2; cases l2), (by rw [l2]; decide), fun H3 v hv G3 B3 => q _ _ ((m2 v hv).but B3) G3 (B1.trans ((Same.but s2).trans B3))⟩⟩
    refine ⟨.ref b, rfl, b, 6, rfl, G1, by decide, by decide, fun H2 m m0 m1 G2 B2 => ⟨_, _, rfl, rfl, ?_⟩⟩
    refine ⟨⟨_, rfl⟩, .int (1 + m), rfl, 1 + m, rfl, by omega, by omega, fun p np => ?_⟩
    have npb : p ≠ b := fun e => by
      obtain ⟨o, ho⟩ := G2.there
      rw [e, ho] at np
      cases np
    refine lc_range (lo := 0) (n := (1 + m).toNat) (fun i H3 => ∃ ys : List Str, H3 p = some (.lst (ys.map V.str)) ∧ ys.length = i ∧ (∀ y ∈ ys, y.length = 1) ∧ Bag H3 b ∧ ButP b p H2 H3)
      ⟨[], upd_same, rfl, fun y hy => absurd hy (by simp), G2.same (same_new np), ButP.new np⟩ ?_ ?_
    · rintro i H3 hi ⟨ys, hp, hl, h1, G3, B3⟩
      refine ⟨rfl, ?_⟩
      refine ⟨.ref b, rfl, b, G3, .inr ⟨_, rfl, (by decide), (by decide), fun H4 c G4 B4 => ?_⟩⟩
      refine ⟨_, B4.run _ _ npb hp, ?_, ys ++ [⟨#[c]⟩], ?_, ?_, ?_, ?_, ?_⟩
      · rw [List.length_map]
        exact Nat.lt_of_le_of_lt (show ys.length ≤ 100 by omega) (by decide)
      · rw [upd_same, List.map_append]
        rfl
      · rw [List.length_append, hl]
        rfl
      · intro y hy
        rcases List.mem_append.mp hy with hy | hy
        · exact h1 y hy
        · simp only [List.mem_cons, List.not_mem_nil, or_false] at hy
          rw [hy]
          rfl
      · exact (B3.bag G2 np npb G4 B4)
      · exact B3.app np npb B4
    · rintro H3 ⟨ys, hp, hl, h1, G3, B3⟩
      have hs : (ys.map (·.length)).sum = ys.length := by
        clear hp hl
        induction ys with
        | nil => rfl
        | cons y r ih =>
          rw [List.map_cons, List.sum_cons, h1 y List.mem_cons_self, ih fun z hz => h1 z (List.mem_cons_of_mem _ hz), List.length_cons, Nat.add_comm]
      refine ⟨_, p, ys, rfl, rfl, .inl (.inl (.inl hp)), ?_, q _ _ (Dat.flat rfl) G3 (B1.trans (B2.trans (B3.but np npb)))⟩
      rw [hs]
      show ys.length + ys.length * 0 ≤ 16777216
      omega
end
end K70
set_option maxRecDepth 100000
set_option maxHeartbeats 4000000
namespace K70
open PySem PySem.Spec PyProof.Rows L2
abbrev sLike : Stmt := topS 40
theorem scLike : FnScope ["_law_told", "_law_due", "_law_a", "_law_b"] ["_law_told", "_law_due"] (defScope sLike) := ⟨rfl, rfl, rfl, by decide +kernel, rfl, by decide +kernel, by decide +kernel⟩
theorem boot_tuple : bootBuiltins "tuple" = some (.type "tuple") := by decide +kernel
theorem boot_str : bootBuiltins "str" = some (.type "str") := by decide +kernel
theorem boot_bool : bootBuiltins "bool" = some (.type "bool") := by decide +kernel
theorem boot_all : bootBuiltins "all" = some (.builtin "all") := by decide +kernel
/-- equal data -/
def Eqv (H : Hp) : Nat → V → V → Prop
  | 0, v, u => flatV v = true ∧ v = u
  | d + 1, v, u => (flatV v = true ∧ v = u) ∨ ∃ a c xs ys, v = .ref a ∧ u = .ref c ∧ ((H a = some (.lst xs) ∧ H c = some (.lst ys)) ∨ (H a = some (.tup xs) ∧ H c = some (.tup ys))) ∧ xs.length = ys.length ∧ xs.length ≤ 100 ∧
      ∀ (i : Nat) (x y : V), xs[i]? = some x → ys[i]? = some y → Eqv H d x y
theorem Eqv.same {H H' : Hp} (s : Same H H') : ∀ {d : Nat} {v u : V}, Eqv H d v u → Eqv H' d v u
  | 0, _, _, h => h
  | d + 1, v, u, h => by
    rcases h with h | ⟨a, c, xs, ys, e1, e2, z, l, l2, m⟩
    · exact .inl h
    · refine .inr ⟨a, c, xs, ys, e1, e2, ?_, l, l2, fun i x y hx hy => Eqv.same s (m i x y hx hy)⟩
      rcases z with ⟨z1, z2⟩ | ⟨z1, z2⟩
      · exact .inl ⟨s _ _ z1, s _ _ z2⟩
      · exact .inr ⟨s _ _ z1, s _ _ z2⟩
theorem Eqv.flat {H : Hp} {d : Nat} {v : V} (h : flatV v = true) : Eqv H d v v := by
  cases d with
  | zero => exact ⟨h, rfl⟩
  | succ d => exact .inl ⟨h, rfl⟩
theorem Dat.eqv {b : Addr} {H : Hp} : ∀ {d : Nat} {v : V}, Dat b H d v → Eqv H d v v
  | 0, _, h => ⟨h, rfl⟩
  | d + 1, v, h => by
    rcases h with h | ⟨a, xs, e, n, z, l, m⟩
    · exact .inl ⟨h, rfl⟩
    · refine .inr ⟨a, a, xs, xs, e, e, ?_, rfl, l, fun i x y hx hy => ?_⟩
      · rcases z with z | z
        · exact .inl ⟨z, z⟩
        · exact .inr ⟨z, z⟩
      · rw [hx] at hy
        cases hy
        exact Dat.eqv (m x (List.mem_of_getElem? hx))
def spLike (d : Nat) : Sp := fun vs H Q _ => ∃ v u, vs = [v, u] ∧ Eqv H d v u ∧ ∀ H', Same H H' → Q (.bl true) H'
theorem _root_.L2.Same.tup {K : PySem.W.Frag} {H H' : Hp} {a : Addr} {xs : List V} (e : Same H H') (h : SqT K H a xs) : SqT K H' a xs := by
  rcases h with (h | ⟨o, h⟩) | h
  · exact .inl (.inl (e _ _ h))
  · exact .inl (.inr ⟨o, e _ _ h⟩)
  · exact .inr h
/-! ### isinstance of built-in types -/
section
variable {K : PySem.W.Frag} {H : Hp} {x : V} {a : String} {σ : L2.St}
theorem kit2 {b c : String} {r1 r2 : Bool} (k1 : kitB a b = some r1) (k2 : kitB a c = some r2) : PySem.W.kitAny K (.type a) [.type b, .type c] = some (r1 || r2) := by
  refine kitAny_cons (kit_ty k1) (fun e => ?_) (fun e => by rw [e]; rfl)
  rw [e]
  refine kitAny_cons (kit_ty k2) (fun e2 => by rw [e2]; exact kitAny_nil) (fun e2 => by rw [e2]; rfl)
end
/-- the type of a flat value -/
def tyN : V → String
  | .bl _ => "bool"
  | .int _ => "int"
  | .str _ => "str"
  | _ => "NoneType"
theorem tyN_ok {K : PySem.W.Frag} {H : Hp} {v : V} (h : flatV v = true) : TyX K H v (.type (tyN v)) := by
  cases v with
  | non => exact .base .non
  | bl b => exact .base (.bl b)
  | int i => exact .base (.int i)
  | str z => exact .base (.str z)
  | byt z => cases h
  | flt z => cases h
  | ref z => cases h
  | ty z => cases h
theorem tyN_cases {v : V} (h : flatV v = true) : tyN v = "NoneType" ∨ tyN v = "bool" ∨ tyN v = "int" ∨ tyN v = "str" := by
  cases v with
  | non => exact .inl rfl
  | bl b => exact .inr (.inl rfl)
  | int i => exact .inr (.inr (.inl rfl))
  | str z => exact .inr (.inr (.inr rfl))
  | byt z => cases h
  | flt z => cases h
  | ref z => cases h
  | ty z => cases h
section
variable {P : Program} {w : World} {K : PySem.W.Frag} {mg : Str → Option Value} {base : Heap}
abbrev CLike (P : Program) (w : World) (K : PySem.W.Frag) (mg : Str → Option Value) (base : Heap) (d : Nat) : Prop := Call1 P w K mg base "_law_like" (d + 1) ["_law_told", "_law_due"] (spLike d)
theorem flat_like {f : Addr} {cdv : Value} {A : Around} {outer : List Env} {s : Shared} {H : Hp} {Q : VK} {E : XK} (B : Bl mg) {v : V} (hv : flatV v = true) (q : ∀ H', Same H H' → Q (.bl true) H') :
    ∃ t, PSs (cxOf CX0 P w K mg base ["_law_told", "_law_due", "_law_a", "_law_b"] "_law_like" (defScope sLike) f cdv A outer s H E).nox (defBody sLike) t ∧ t { nx := fun _ H' => Q .non H', rt := Q } (start ["_law_told", "_law_due", "_law_a", "_law_b"] [v, v]) H := by
  refine ⟨_, (pss_cons (ps_if (pt_val (pe_callB call_isiT (by rfl) B.isinstance boot_isinstance (pa_cons (pv 1) (pa_cons (pe_tup (pa_cons (pe_bltn (v := .ty "list") (by rfl) B.list boot_list rfl) (pa_cons (pe_bltn (v := .ty "tuple") (by rfl) B.tuple boot_tuple rfl) pa_nil))) pa_nil))) (fun _ => rfl))
 pss_never pss_nil)
 (pss_cons (ps_if (PW.pt (pw_or (pt_cmpR op_isN (pv 1) pe_non (nomark _)) (pw_or1 (pt_cmpR op_isN (pv 0) pe_non (nomark _)))))
 (pss_one (ps_ret (pe_and (pe_cmpR op_isN (pv 1) pe_non (nomark _)) (pe_one (pe_cmpR op_isN (pv 0) pe_non (nomark _))))))
 pss_nil)
 (pss_cons (ps_if (PW.pt (pw_or (pt_val (pe_callB call_isiT (by rfl) B.isinstance boot_isinstance (pa_cons (pv 0) (pa_cons (pe_tup (pa_cons (pe_bltn (v := .ty "list") (by rfl) B.list boot_list rfl) (pa_cons (pe_bltn (v := .ty "tuple") (by rfl) B.tuple boot_tuple rfl) pa_nil))) pa_nil))) (fun _ => rfl)) (pw_or1 (pt_cmpR op_ne (pe_callB call_isi (by rfl) B.isinstance boot_isinstance (pa_cons (pv 0) (pa_cons (pe_bltn (v := .ty "bool") (by rfl) B.bool boot_bool rfl) pa_nil))) (pe_callB call_isi (by rfl) B.isinstance boot_isinstance (pa_cons (pv 1) (pa_cons (pe_bltn (v := .ty "bool") (by rfl) B.bool boot_bool rfl) pa_nil))) (nomark _)))))
 (pss_one (ps_ret pe_bl))
 pss_nil)
 (pss_cons (ps_if (PW.pt (pw_or (pt_cmpR op_ne (pe_callB call_isi (by rfl) B.isinstance boot_isinstance (pa_cons (pv 0) (pa_cons (pe_bltn (v := .ty "str") (by rfl) B.str boot_str rfl) pa_nil))) (pe_callB call_isi (by rfl) B.isinstance boot_isinstance (pa_cons (pv 1) (pa_cons (pe_bltn (v := .ty "str") (by rfl) B.str boot_str rfl) pa_nil))) (nomark _)) (pw_or1 (pt_cmpR op_ne (pe_callB call_isi (by rfl) B.isinstance boot_isinstance (pa_cons (pv 0) (pa_cons (pe_bltn (v := .ty "int") (by rfl) B.int boot_int rfl) pa_nil))) (pe_callB call_isi (by rfl) B.isinstance boot_isinstance (pa_cons (pv 1) (pa_cons (pe_bltn (v := .ty "int") (by rfl) B.int boot_int rfl) pa_nil))) (nomark _)))))
 (pss_one (ps_ret pe_bl))
 pss_nil)
 (pss_one (ps_ret (pe_cmpR op_eq (pv 0) (pv 1) (nomark _)))))))), ?_⟩
  have kl : kitB (tyN v) "list" = some false := by rcases tyN_cases hv with e | e | e | e <;> rw [e] <;> decide +kernel
  have kt : kitB (tyN v) "tuple" = some false := by rcases tyN_cases hv with e | e | e | e <;> rw [e] <;> decide +kernel
  obtain ⟨rb, kb⟩ : ∃ r, kitB (tyN v) "bool" = some r := by rcases tyN_cases hv with e | e | e | e <;> rw [e] <;> first | exact ⟨true, by decide +kernel⟩ | exact ⟨false, by decide +kernel⟩
  obtain ⟨rs, ks⟩ : ∃ r, kitB (tyN v) "str" = some r := by rcases tyN_cases hv with e | e | e | e <;> rw [e] <;> first | exact ⟨true, by decide +kernel⟩ | exact ⟨false, by decide +kernel⟩
  obtain ⟨ri, ki⟩ : ∃ r, kitB (tyN v) "int" = some r := by rcases tyN_cases hv with e | e | e | e <;> rw [e] <;> first | exact ⟨true, by decide +kernel⟩ | exact ⟨false, by decide +kernel⟩
  have sc : scal v v = true := by cases v <;> first | rfl | cases hv
  have ty : ∀ H, TyX K H v (.type (tyN v)) := fun H => tyN_ok hv
  refine ⟨v, rfl, (by show 2 ≤ sizeLine; decide), fun t1 n1 => ⟨v, t1, _, _, [.type "list", .type "tuple"], _, rfl, upd_same, .cons (.ty _) (.cons (.ty _) .nil), ty _, kit2 kl kt, _, rfl, ?_⟩⟩
  have s1 := same_new (o := .tup [.ty "list", .ty "tuple"]) n1
  -- is None
  refine ⟨v, rfl, rfl, _, rfl, ?_⟩
  by_cases hn : v = .non
  · rw [decide_eq_true hn]
    exact ⟨v, rfl, rfl, true, by rw [decide_eq_true hn], v, rfl, rfl, by rw [decide_eq_true hn]; exact q _ s1⟩
  · rw [decide_eq_false hn]
    refine ⟨v, rfl, rfl, false, by rw [decide_eq_false hn], ?_⟩
    -- isinstance(told, (list, tuple)) or ..
    refine ⟨v, rfl, (by show 2 ≤ sizeLine; decide), fun t2 n2 => ⟨v, t2, _, _, [.type "list", .type "tuple"], _, rfl, upd_same, .cons (.ty _) (.cons (.ty _) .nil), ty _, kit2 kl kt, _, rfl, ?_⟩⟩
    have s2 := s1.trans (same_new (o := .tup [.ty "list", .ty "tuple"]) n2)
    refine ⟨v, rfl, _, _, _, _, _, rfl, .ty _, ty _, kit_ty kb, v, rfl, _, _, _, _, _, rfl, .ty _, ty _, kit_ty kb, rfl, _, rfl, iteNS rfl ?_⟩
    -- str, int
    refine ⟨v, rfl, _, _, _, _, _, rfl, .ty _, ty _, kit_ty ks, v, rfl, _, _, _, _, _, rfl, .ty _, ty _, kit_ty ks, rfl, _, rfl, iteNS rfl ?_⟩
    refine ⟨v, rfl, _, _, _, _, _, rfl, .ty _, ty _, kit_ty ki, v, rfl, _, _, _, _, _, rfl, .ty _, ty _, kit_ty ki, rfl, _, rfl, iteNS rfl ?_⟩
    refine ⟨v, rfl, v, rfl, sc, ?_⟩
    rw [decide_eq_true rfl]
    exact q _ s2
theorem ref_like {d : Nat} {f : Addr} {cdv : Value} {A : Around} {outer : List Env} {s : Shared} {H : Hp} {Q : VK} {E : XK} (B : Bl mg) (C_law_like : CLike P w K mg base d) (hr : Room (d + 1) (A.deeper (envOfC "_law_like" (defScope sLike) s.heap.objs.size f cdv)))
    {a c : Addr} {xs ys : List V} (hz : (H a = some (.lst xs) ∧ H c = some (.lst ys)) ∨ (H a = some (.tup xs) ∧ H c = some (.tup ys))) (hl : xs.length = ys.length) (hl2 : xs.length ≤ 100)
    (hm : ∀ (i : Nat) (x y : V), xs[i]? = some x → ys[i]? = some y → Eqv H d x y) (q : ∀ H', Same H H' → Q (.bl true) H') :
    ∃ t, PSs (cxOf CX0 P w K mg base ["_law_told", "_law_due", "_law_a", "_law_b"] "_law_like" (defScope sLike) f cdv A outer s H E).nox (defBody sLike) t ∧ t { nx := fun _ H' => Q .non H', rt := Q } (start ["_law_told", "_law_due", "_law_a", "_law_b"] [.ref a, .ref c]) H := by
  refine ⟨_, (pss_cons (ps_if (pt_val (pe_callB call_isiT (by rfl) B.isinstance boot_isinstance (pa_cons (pv 1) (pa_cons (pe_tup (pa_cons (pe_bltn (v := .ty "list") (by rfl) B.list boot_list rfl) (pa_cons (pe_bltn (v := .ty "tuple") (by rfl) B.tuple boot_tuple rfl) pa_nil))) pa_nil))) (fun _ => rfl))
 (pss_cons (ps_if (PW.pt (pw_or (pt_cmpR op_ne (pe_callB call_isi (by rfl) B.isinstance boot_isinstance (pa_cons (pv 0) (pa_cons (pe_bltn (v := .ty "list") (by rfl) B.list boot_list rfl) pa_nil))) (pe_callB call_isi (by rfl) B.isinstance boot_isinstance (pa_cons (pv 1) (pa_cons (pe_bltn (v := .ty "list") (by rfl) B.list boot_list rfl) pa_nil))) (nomark _)) (pw_or1 (pt_cmpR op_ne (pe_callB call_isi (by rfl) B.isinstance boot_isinstance (pa_cons (pv 0) (pa_cons (pe_bltn (v := .ty "tuple") (by rfl) B.tuple boot_tuple rfl) pa_nil))) (pe_callB call_isi (by rfl) B.isinstance boot_isinstance (pa_cons (pv 1) (pa_cons (pe_bltn (v := .ty "tuple") (by rfl) B.tuple boot_tuple rfl) pa_nil))) (nomark _)))))
 (pss_one (ps_ret pe_bl))
 pss_nil)
 (pss_one (ps_ret (pe_and (pe_cmpR op_eq (pe_callB call_len_any (by rfl) B.len boot_len (pa_cons (pv 0) pa_nil)) (pe_callB call_len_any (by rfl) B.len boot_len (pa_cons (pv 1) pa_nil)) (nomark _)) (pe_one (pe_callB (cr_all rfl) (by rfl) B.all boot_all (pa_cons (pe_lc (own := [("_law_a", 2), ("_law_b", 3)]) (g := gTup K 2 (gCons (gName 2) (gCons (gName 3) gNil))) rfl scLike.nd (RZ.pi_zipA (by rfl) B.zip (pa_cons (pv 0) (pa_cons (pv 1) pa_nil))) (blkOk_by (N := ["_law_told", "_law_due", "_law_a", "_law_b"]) (sc := defScope sLike) (by decide +kernel)) (fun _ _ _ _ _ => (pg_tup (n := 2) rfl (pgs_cons (pg_name (i := 2) scLike.nd rfl (.inl rfl) (.inr rfl)) (pgs_cons (pg_name (i := 3) scLike.nd rfl (.inl rfl) (.inr rfl)) pgs_nil)))) (fun _ _ _ _ _ => pts_nil) (fun _ _ _ _ _ => (pe_callD C_law_like hr (by omega) (by rfl) (pa_cons (pv 2) (pa_cons (pv 3) pa_nil))))) pa_nil))))))) pss_nil)
 pss_never), ?_⟩
  have key : ∃ T r1 r2, kitB T "list" = some r1 ∧ kitB T "tuple" = some r2 ∧ (r1 || r2) = true ∧ (∀ H1, Same H H1 → TyX K H1 (.ref a) (.type T)) ∧ ∀ H1, Same H H1 → TyX K H1 (.ref c) (.type T) := by
    rcases hz with ⟨h1, h2⟩ | ⟨h1, h2⟩
    · exact ⟨"list", true, false, by decide +kernel, by decide +kernel, rfl, fun H1 s => .base (.lst (s _ _ h1)), fun H1 s => .base (.lst (s _ _ h2))⟩
    · exact ⟨"tuple", false, true, by decide +kernel, by decide +kernel, rfl, fun H1 s => .base (.tup (s _ _ h1)), fun H1 s => .base (.tup (s _ _ h2))⟩
  obtain ⟨T, r1, r2, k1, k2, kk, ta, tc⟩ := key
  refine ⟨.ref c, rfl, (by show 2 ≤ sizeLine; decide), fun t1 n1 => ?_⟩
  have s1 := same_new (o := .tup [.ty "list", .ty "tuple"]) n1
  refine ⟨.ref c, t1, _, _, [.type "list", .type "tuple"], _, rfl, upd_same, .cons (.ty _) (.cons (.ty _) .nil), tc _ s1, kit2 k1 k2, true, by rw [kk], ?_⟩
  refine ⟨.ref a, rfl, _, _, _, _, _, rfl, .ty _, ta _ s1, kit_ty k1, .ref c, rfl, _, _, _, _, _, rfl, .ty _, tc _ s1, kit_ty k1, rfl, _, rfl, iteNS rfl ?_⟩
  refine ⟨.ref a, rfl, _, _, _, _, _, rfl, .ty _, ta _ s1, kit_ty k2, .ref c, rfl, _, _, _, _, _, rfl, .ty _, tc _ s1, kit_ty k2, rfl, _, rfl, iteNS rfl ?_⟩
  generalize upd H t1 (.tup [.ty "list", .ty "tuple"]) = H1 at s1
  have hz1 : (SqL K H1 a xs ∧ SqL K H1 c ys) ∨ (SqT K H1 a xs ∧ SqT K H1 c ys) := by
    rcases hz with ⟨h1, h2⟩ | ⟨h1, h2⟩
    · exact .inl ⟨.inl (.inl (s1 _ _ h1)), .inl (.inl (s1 _ _ h2))⟩
    · exact .inr ⟨.inl (.inl (s1 _ _ h1)), .inl (.inl (s1 _ _ h2))⟩
  have ha : SqL K H1 a xs ∨ SqT K H1 a xs := hz1.imp (·.1) (·.1)
  have hc : SqL K H1 c ys ∨ SqT K H1 c ys := hz1.imp (·.2) (·.2)
  -- len(told) == len(due) and ..
  refine ⟨.ref a, rfl, .inl ⟨a, xs, rfl, ha, .ref c, rfl, .inl ⟨c, ys, rfl, hc, rfl, _, rfl, ?_⟩⟩⟩
  rw [hl, decide_eq_true rfl]
  refine iteT ?_
  -- the pairs
  refine ⟨.ref a, rfl, .ref c, rfl, a, c, xs, ys, rfl, ?_⟩
  have Wk : ∀ {H3 : Hp} {D : Addr} {i : Nat}, Same H1 H3 → i < xs.length → ∃ x y, xs[i]? = some x ∧ ys[i]? = some y ∧ ∀ H4, Same H3 H4 → Eqv H4 d x y := fun {H3 D i} s3 hi =>
    ⟨xs[i], ys[i]'(hl ▸ hi), List.getElem?_eq_getElem hi, List.getElem?_eq_getElem (hl ▸ hi), fun H4 s4 => Eqv.same (s1.trans (s3.trans s4)) (hm i _ _ (List.getElem?_eq_getElem hi) (List.getElem?_eq_getElem (hl ▸ hi)))⟩
  have fin : ∀ {H3 : Hp} {D : Addr}, Same H1 H3 → H3 D = some (.lst (List.replicate xs.length (.bl true))) → rAll K [.ref D] H3 Q := fun {H3 D} s3 h3 => by
    refine ⟨D, List.replicate xs.length true, rfl, .inl (.inl (by rw [List.map_replicate]; exact h3)), ?_⟩
    have e : (List.replicate xs.length true).all id = true := by
      rw [List.all_eq_true]
      intro x hx
      rw [(List.mem_replicate.mp hx).2]
      rfl
    rw [e]
    exact q _ (s1.trans s3)
  -- a turn of the comprehension
  have turn : ∀ {H3 H4 : Hp} {D T : Addr} {i : Nat} {x y : V}, Same H1 H3 → H1 D = none → H3 D = some (.lst (List.replicate i (.bl true))) → i < xs.length → H3 T = none → xs[i]? = some x → ys[i]? = some y → H4 = upd H3 T (.tup [x, y]) →
      (∀ H5, Same H4 H5 → spLike d [x, y] H5 (fun y H6 => ∃ acc, H6 D = some (.lst acc) ∧ acc.length < sizeLine ∧ Same H1 (upd H6 D (.lst (acc ++ [y]))) ∧ (upd H6 D (.lst (acc ++ [y]))) D = some (.lst (List.replicate (i + 1) (.bl true)))) E0) := by
    intro H3 H4 D T i x y s3 nD h3 hi nT hx hy e4 H5 s5
    obtain ⟨x', y', hx', hy', hE⟩ := Wk (D := D) s3 hi
    rw [hx] at hx'
    rw [hy] at hy'
    cases hx'
    cases hy'
    have s34 : Same H3 H4 := by rw [e4]; exact same_new nT
    refine ⟨x, y, rfl, hE H5 (s34.trans s5), fun H6 s6 => ⟨_, s6 _ _ (s5 _ _ (s34 _ _ h3)), ?_, ?_, ?_⟩⟩
    · rw [List.length_replicate]
      exact Nat.lt_of_lt_of_le (show i < 101 by omega) (by decide)
    · intro b o hb
      have nb : b ≠ D := ne_of_none hb nD
      rw [upd_ne nb]
      exact s6 _ _ (s5 _ _ (s34 _ _ (s3 _ _ hb)))
    · rw [upd_same, List.replicate_succ']
  rcases hz1 with ⟨ha1, hc1⟩ | ⟨ha1, hc1⟩
  · refine .inl ⟨ha1, hc1, fun D nD => ⟨fun i m H3 => i + m = xs.length ∧ Same H1 H3 ∧ H3 D = some (.lst (List.replicate i (.bl true))), ⟨xs.length, by omega, same_new nD, upd_same⟩, fun i m H3 hW => ?_⟩⟩
    obtain ⟨em, s3, h3⟩ := hW
    by_cases hi : i < xs.length
    · obtain ⟨x, y, hx, hy, _⟩ := Wk (D := D) s3 hi
      refine .inr ⟨⟨xs, ys, x, y, s3.seq ha1, s3.seq hc1, hx, hy⟩, fun H4 => Same H1 H4 ∧ H4 D = some (.lst (List.replicate (i + 1) (.bl true))), fun H4 hN => ⟨m - 1, by omega, by omega, hN.1, hN.2⟩, fun v H4 hv => ?_⟩
      obtain ⟨T, x2, y2, rfl, nT, e4, f1, f2⟩ := hv
      have ex : x2 = x := Option.some.inj ((f1 _ (s3.seq ha1)).symm.trans hx)
      have ey : y2 = y := Option.some.inj ((f2 _ (s3.seq hc1)).symm.trans hy)
      subst ex ey
      refine ⟨T, [x2, y2], rfl, .inl (.inl (by rw [e4, upd_same])), rfl, x2, [y2], rfl, y2, [], rfl, rfl, rfl, ?_⟩
      exact ⟨x2, rfl, y2, rfl, turn s3 nD h3 hi nT hx hy e4 H4 (Same.refl _)⟩
    · have ei : i = xs.length := by omega
      subst ei
      exact .inl ⟨⟨xs, ys, s3.seq ha1, s3.seq hc1, .inl (Nat.le_refl _)⟩, fin s3 h3⟩
  · refine .inr ⟨ha1, hc1, fun D nD => ⟨fun i m H3 => i + m = xs.length ∧ Same H1 H3 ∧ H3 D = some (.lst (List.replicate i (.bl true))), ⟨xs.length, by omega, same_new nD, upd_same⟩, fun i m H3 hW => ?_⟩⟩
    obtain ⟨em, s3, h3⟩ := hW
    by_cases hi : i < xs.length
    · obtain ⟨x, y, hx, hy, _⟩ := Wk (D := D) s3 hi
      refine .inr ⟨⟨xs, ys, x, y, s3.tup ha1, s3.tup hc1, hx, hy⟩, fun H4 => Same H1 H4 ∧ H4 D = some (.lst (List.replicate (i + 1) (.bl true))), fun H4 hN => ⟨m - 1, by omega, by omega, hN.1, hN.2⟩, fun v H4 hv => ?_⟩
      obtain ⟨T, x2, y2, rfl, nT, e4, f1, f2⟩ := hv
      have ex : x2 = x := Option.some.inj ((f1 _ (s3.tup ha1)).symm.trans hx)
      have ey : y2 = y := Option.some.inj ((f2 _ (s3.tup hc1)).symm.trans hy)
      subst ex ey
      refine ⟨T, [x2, y2], rfl, .inl (.inl (by rw [e4, upd_same])), rfl, x2, [y2], rfl, y2, [], rfl, rfl, rfl, ?_⟩
      exact ⟨x2, rfl, y2, rfl, turn s3 nD h3 hi nT hx hy e4 H4 (Same.refl _)⟩
    · have ei : i = xs.length := by omega
      subst ei
      exact .inl ⟨⟨xs, ys, s3.tup ha1, s3.tup hc1, .inl (Nat.le_refl _)⟩, fin s3 h3⟩
theorem ok_like (D : DefT K mg "_law_like" sLike) (B : Bl mg) : ∀ d : Nat, CLike P w K mg base d
  | 0 => by
    refine D.call scLike (fun vs H Q E h => ?_) (fun _ _ _ _ _ _ us hl => match us, hl with | [_, _], _ => rfl) (fun f cdv A outer s H vs Q E hr h => ?_)
    · obtain ⟨v, u, rfl, _⟩ := h
      rfl
    · obtain ⟨v, u, rfl, ⟨hv, rfl⟩, q⟩ := h
      exact flat_like B hv q
  | d + 1 => by
    have C := ok_like D B d
    refine D.call scLike (fun vs H Q E h => ?_) (fun _ _ _ _ _ _ us hl => match us, hl with | [_, _], _ => rfl) (fun f cdv A outer s H vs Q E hr h => ?_)
    · obtain ⟨v, u, rfl, _⟩ := h
      rfl
    · obtain ⟨v, u, rfl, ⟨hv, rfl⟩ | ⟨a, c, xs, ys, rfl, rfl, z, l, l2, m⟩, q⟩ := h
      · exact flat_like B hv q
      · exact ref_like B C hr z l l2 m q
end
end K70
set_option maxRecDepth 100000
set_option maxHeartbeats 4000000
/-! an own error class called with keywords, over any of the three bases -/
namespace K70.Kw
open PySem PySem.HandSPX
section
variable {M : Model} {A : Around} {E : Value → Shared → Prop} {h : Heap}
variable {g : Array GenState} {d : Drawn} {t : Nat} {os : OsState}
variable {nm q : Str} {C N : Addr} {bs bm bmB : List Value} {hdct : Bool} {sn : List Str} {sub : List Value} {ab : Bool} {col : Option Bool}
variable {dd : Option Addr} {k0 k1 k2 k3 k5 : Option Value} {B newId initId : String} {kw : List (Str × Value)}
theorem check_new (F : ExcBaseFacts B newId initId bmB) (hT : ∀ X : String, bm.contains (.type X) = bmB.contains (.type X)) {Q : Unit → Shared → Prop}
    (hC : h.get? C = some (excClassObj nm q C N bs bm hdct sn sub ab col dd k0 k1 k2 k3 k5 newId))
    (hq : Q () ⟨h, g, d, t, os⟩) : wpAny M A (checkBuiltinCall newId ⟨[.ref C], kw⟩) Q E ⟨h, g, d, t, os⟩ := by
  have hB : (Value.ref C :: bm).contains (.type B) = true := by
    rw [List.contains_cons, hT, F.hasB, Bool.or_true]
  have star := F.noStar
  simp only [checkBuiltinCall, F.newKind, F.newSplit, F.newRow]
  repeat (first
    | refine wpAny_loadPart_at hC ?_
    | (refine wpAny_isSubtype_exc hC ?_; rw [hB])
    | refine wpAny_staticBase_exc hC ?_
    | refine wpAny_madeBy_exc hC ?_
    | simp only [bne_self_eq_false, Bool.false_eq_true, if_false]
    | wp_step)
  exact hq
theorem check_tc {Q : Unit → Shared → Prop} (hC : h.get? C = some (excClassObj nm q C N bs bm hdct sn sub ab col dd k0 k1 k2 k3 k5 newId))
    (hq : Q () ⟨h, g, d, t, os⟩) : wpAny M A (checkBuiltinCall "type.__call__" ⟨[.ref C], kw⟩) Q E ⟨h, g, d, t, os⟩ := by
  have z := tc_sub
  have hTy : (⟨h, g, d, t, os⟩ : Shared).TypeIs (.ref C) "type" := ⟨_, hC, rfl⟩
  simp only [checkBuiltinCall, tc_kind, tc_split]
  repeat (any_goals (first
    | assumption
    | with_reducible refine wpAny_loadPart_at hC ?_
    | with_reducible refine wpAny_onRaise ?_
    | with_reducible refine wpAny_map ?_
    | wp_step))
end
section
variable {prog : Program} {w : World} {A : Around} {E : Value → Shared → Prop} {R : Result → Shared → Prop} {h : Heap}
variable {g : Array GenState} {d : Drawn} {t : Nat} {os : OsState}
variable {nm q : Str} {C N : Addr} {bs bm bmB : List Value} {hdct : Bool} {sn : List Str} {sub : List Value} {ab : Bool} {col : Option Bool}
variable {dd : Option Addr} {k0 k1 k2 k3 k5 : Option Value} {B newId initId : String} {kw : List (Str × Value)}
theorem new_kw (F : ExcBaseFacts B newId initId bmB) (hT : ∀ X : String, bm.contains (.type X) = bmB.contains (.type X))
    (hC : h.get? C = some (excClassObj nm q C N bs bm hdct sn sub ab col dd k0 k1 k2 k3 k5 newId))
    (hq : R (.ok (.ret (.ref (h.objs.size + 1)))) ⟨(h.push (W.kdv_tup [])).push (excO C h.objs.size), g, d, t, os⟩) :
    codeAny (model prog w) A (.builtin newId ⟨[.ref C], kw⟩) R ⟨h, g, d, t, os⟩ := by
  have fe := F.ends
  have h1 : (Value.ref C :: bm).contains (.type B) = true := by
    rw [List.contains_cons, hT, F.hasB, Bool.or_true]
  have h2 : (Value.ref C :: bm).contains (.type "AttributeError") = false := by
    rw [List.contains_cons, hT, F.noAttr]
    rfl
  have h3 : (Value.ref C :: bm).contains (.type "NameError") = false := by
    rw [List.contains_cons, hT, F.noName]
    rfl
  have hrest : ([] : List Value).length ≤ sizeLine := Nat.zero_le _
  refine codeAny_builtinAt F.entry ?_
  unfold Builtin.«BaseException.__new__»
  refine wpAt_bind ?_
  show wpAt _ _ _ (stack >>= _) _ _ _
  refine wpAt_bind (wpAt_stack fun p below => wpAt_of_wpAny ?_)
  wp_walk
  refine wpAt_of_wpAny ?_
  rw [F.owner]
  repeat (first
    | with_reducible refine wpAny_madeHere_exc F.canon hC ?_
    | with_reducible refine wpAny_loadPart_at hC ?_
    | (with_reducible refine wpAny_isSubtype_exc hC ?_; first | rw [h1] | rw [h2] | rw [h3])
    | wp_step)
  show R _ _
  rw [Heap.size_push]
  exact hq
theorem type_call_kw (F : ExcBaseFacts B newId initId bmB) (hT : ∀ X : String, bm.contains (.type X) = bmB.contains (.type X)) {fI : Addr} {Q : Fin → Shared → Prop}
    (hC : h.get? C = some (excClassObj nm q C N bs bm hdct sn sub ab col dd k0 k1 k2 k3 k5 newId))
    (hi : W.Looks (model prog w) h (typeLookup (.ref C) "__init__") (some (.ref fI)))
    (hb : ∀ self, W.Looks (model prog w) h (bindSpecial (.ref fI) self) (.ref fI, [self]))
    (hq : codeAny (model prog w) A (.call (.ref fI) ⟨[.ref (h.objs.size + 1)], kw⟩)
      (fun r s' => match r with
        | .ok (.ret v) => v = .none ∧ Q (.done (.ret (.ref (h.objs.size + 1)))) s'
        | .ok _ => False
        | .error e => E e s')
      ⟨(h.push (W.kdv_tup [])).push (excO C h.objs.size), g, d, t, os⟩) :
    wpAny (model prog w) A (Builtin.«type.__call__» ⟨[.ref C], kw⟩) Q E ⟨h, g, d, t, os⟩ := by
  repeat (first
    | with_reducible refine wpAny_loadPart_at hC ?_
    | with_reducible refine wpAny_madeBy_exc hC ?_
    | wp_step)
  refine codeAny_call_builtin_code (Code.quiet_builtin _ F.quiet) (check_new F hT hC ?_)
  refine new_kw F hT hC ?_
  show wpAny _ _ _ _ _ _
  have kp : ∀ b o, h.get? b = some o → ((h.push (W.kdv_tup [])).push (excO C h.objs.size)).get? b = some o :=
    fun b o e => Heap.get?_push_of_some _ (Heap.get?_push_of_some _ e)
  have hC2 := kp _ _ hC
  have hg : ((h.push (W.kdv_tup [])).push (excO C h.objs.size)).get? (h.objs.size + 1) = some (excO C h.objs.size) := by heap_get
  have hself : (Value.ref C :: bm).contains (.ref C) = true := by simp
  have hi2 := hi.keeps kp
  have hb2 := (hb (.ref (h.objs.size + 1))).keeps kp
  unfold isInstance
  repeat (first
    | with_reducible refine wpAny_loadPart_at hg ?_
    | (with_reducible refine wpAny_isSubtype_exc hC2 ?_; rw [hself])
    | wp_step)
  show wpAny _ _ (typeLookup (.ref C) _) _ _ _
  refine hi2.at ?_
  refine wpAny_holding (wpAny_bind (hb2.at ?_))
  refine wpAny_bind (wpAny_call (codeAny_mono hq fun r s' z => ?_))
  rcases r with e | (v | _ | _ | _) <;> first | exact z | exact z.elim | skip
  obtain ⟨rfl, z⟩ := z
  first
    | exact wpAny_pure (wpAny_pure z)
    | (wp_walk; exact z)
/-- C(k = v, ..) -/
theorem call_kw (F : ExcBaseFacts B newId initId bmB) (hT : ∀ X : String, bm.contains (.type X) = bmB.contains (.type X)) {fI : Addr}
    (hC : h.get? C = some (excClassObj nm q C N bs bm hdct sn sub ab col dd k0 k1 k2 k3 k5 newId))
    (hi : W.Looks (model prog w) h (typeLookup (.ref C) "__init__") (some (.ref fI)))
    (hb : ∀ self, W.Looks (model prog w) h (bindSpecial (.ref fI) self) (.ref fI, [self]))
    (hq : codeAny (model prog w) (A.under (.builtin "type.__call__" ⟨[.ref C], kw⟩)) (.call (.ref fI) ⟨[.ref (h.objs.size + 1)], kw⟩) (W.InitBack (h.objs.size + 1) R)
      ⟨(h.push (W.kdv_tup [])).push (excO C h.objs.size), g, d, t, os⟩) :
    codeAny (model prog w) A (.call (.ref C) ⟨[], kw⟩) R ⟨h, g, d, t, os⟩ := by
  have z1 := tc_lookup
  have z2 := tc_bind (.ref C)
  have hTy : (⟨h, g, d, t, os⟩ : Shared).TypeIs (.ref C) "type" := ⟨_, hC, rfl⟩
  refine codeAny_of_tree ?_
  show wpAny _ _ (callAny (.ref C) _) _ _ _
  repeat (any_goals (first
    | assumption
    | with_reducible refine wpAny_loadPart_at hC ?_
    | wp_step))
  refine ⟨rfl, ?_⟩
  refine codeAny_call_builtin_at (Code.quiet_builtin _ (by decide +kernel)) entry_typeCall
    (check_tc hC (type_call_kw F hT hC hi hb ?_))
  refine codeAny_mono hq fun r s' z => ?_
  rcases r with e | (v | _ | _ | _) <;> exact z
end
end K70.Kw
set_option maxRecDepth 100000
set_option maxHeartbeats 4000000
/-! own error classes over any base: stores by __init__, making, reading, isinstance -/
namespace K70
open PySem PySem.Spec PyProof.Rows L2
/-- what the written part says of an own error class -/
structure XC (K : PySem.W.Frag) (C : Addr) : Prop where
  cr : ∃ (B newId initId : String) (bmB : List Value), ExcBaseFacts B newId initId bmB ∧ PySem.W.excInitIn K C bmB newId = true
  st : ∃ (B : String) (bmB : List Value), StoreFacts B bmB "object.__setattr__" "object" ∧ PySem.W.excOver K C bmB = true
  sa : PySem.W.findIn K (.ref C) "__setattr__" = some (some (.builtin "object.__setattr__"))
  ga : PySem.W.findIn K (.ref C) "__getattribute__" = some (some (.builtin "BaseException.__getattribute__"))
  gg : PySem.W.findIn K (.ref C) "__getattr__" = some none
  ca : PySem.W.findIn K (.ref C) "__class__" = some (some (.builtin "object.__class__"))
  sg : PySem.W.specialIn K (.builtin "object.__class__") "__get__" = some (some (.builtin "getset_descriptor.__get__"))
  tk : PySem.W.takesIn K (.builtin "object.__class__") = some true
  mo : PySem.W.mroIn K C (.type "object") = some true
  exC : PySem.W.subIn K (.ref C) (.type "BaseException") = some true
  tyC : PySem.W.typeIn K (.ref C) = some (.type "type")
  kC : PySem.W.keepIn K (.ref C) = true
  hdC : PySem.W.hasDictIn K C = true
theorem XC.cl {K : PySem.W.Frag} {C : Addr} (T : XC K C) : (PySem.W.clsIn K C).isSome = true := by
  obtain ⟨cd, hc, _⟩ := PySem.W.any_some T.hdC
  rw [hc]
  rfl
section
open PySem.W PySem.HandSPX PySem.Builtin PySem.Builtin.ObjectAttr
variable {prog : Program} {w : World} {A : Around} {E : Value → Shared → Prop} {R : Result → Shared → Prop} {hp : Heap}
variable {g : Array GenState} {d : Drawn} {t : Nat} {os : OsState} {K : Frag} {name : Str} {tk : Tok} {v : Value} {x C : Addr} {fv : Array Value}
theorem taker_none (ha : findIn K (.ref C) name = some none) : takerIn K C name = some none := by
  unfold takerIn
  rw [ha]
  rfl
/-- the first field of an error -/
theorem osaX_new (T : XC K C) (X : K.In hp) (hx : hp.get? x = some { cls := .ref C, data := .fields fv }) (ha : findIn K (.ref C) name = some none)
    (hq : ∀ h' tk' dx, (∀ b o, b ≠ x → hp.get? b = some o → h'.get? b = some o) → hp.objs.size ≤ dx → dx ≠ x →
      h'.get? x = some { cls := .ref C, dict := some dx, data := .fields fv } → h'.Ns1 dx (fun y => if y = name then some v else none) →
      R (.ok (.ret .none)) ⟨h', g, d, tk', os⟩) :
    codeAny (model prog w) A (.call (.builtin "object.__setattr__") ⟨[.ref x, .str name tk, v], []⟩) R ⟨hp, g, d, t, os⟩ := by
  have I : InstAt hp x { cls := .ref C, data := .fields fv } C none := ⟨hx, rfl, rfl, trivial⟩
  have nx : x ≠ hp.objs.size := Nat.ne_of_lt (Heap.lt_size hx)
  obtain ⟨B, bmB, SF, ov⟩ := T.st
  obtain ⟨cd, hcd, hh⟩ := PySem.W.any_some T.hdC
  have hcls : Looks (model prog w) hp (classData C) cd := looks_clsIn X hcd
  refine osa_openX (s := ⟨hp, g, d, t, os⟩) SF X I ov (taker_none ha) fun b => ?_
  show wpAny _ _ (storeInOwnDict (.ref x) (.ref C) (.str name tk) name v b) _ _ _
  obtain ⟨nm, bs, mro, ns, qn, hd, sn, sb, ab, col, del⟩ := cd
  dsimp only at hh
  subst hh
  unfold storeInOwnDict ownDictForStores
  repeat (first
    | with_reducible refine store_in_new ?_ ?_
    | with_reducible refine wpAny_loadPart_at hx ?_
    | with_reducible refine hcls.at ?_
    | wp_step)
  · refine ⟨_, #[], _, (Heap.get?_update_ne _ _ _ _ nx.symm).trans (Heap.get?_push_at rfl rfl), rfl, fun e he => ?_, fun _ => rfl⟩
    exact absurd he (by simp)
  · intro h' tk' hn' hs
    have hx2 : (hp.push { cls := .type "dict", data := .dict #[] }).get? x = some { cls := .ref C, data := .fields fv } := Heap.get?_push_of_some _ hx
    refine hq h' tk' hp.objs.size (fun b o hb ho => ?_) (Nat.le_refl _) nx.symm ?_ hn'
    · refine (hs.2 b (Nat.ne_of_lt (Heap.lt_size ho))).trans ?_
      exact (Heap.get?_update_ne _ _ _ _ hb).trans (Heap.get?_push_of_some _ ho)
    · exact (hs.2 x nx).trans (Heap.get?_update_self _ hx2 rfl)
/-- a further field -/
theorem osaX_old {dx : Addr} {m0 : Str → Option Value} {nl : List Str} (T : XC K C) (X : K.In hp) (hx : hp.get? x = some { cls := .ref C, dict := some dx, data := .fields fv }) (hns : hp.Ns1 dx m0) (hw : Within m0 nl) (hz : nl.length ≤ 1000)
    (ha : findIn K (.ref C) name = some none)
    (hq : ∀ h' tk', (∀ b o, b ≠ dx → hp.get? b = some o → h'.get? b = some o) → h'.Ns1 dx (fun y => if y = name then some v else m0 y) → R (.ok (.ret .none)) ⟨h', g, d, tk', os⟩) :
    codeAny (model prog w) A (.call (.builtin "object.__setattr__") ⟨[.ref x, .str name tk, v], []⟩) R ⟨hp, g, d, t, os⟩ := by
  obtain ⟨oD, esD, epD, hoD, hdD, _⟩ := hns.count hw
  have I : InstAt hp x { cls := .ref C, dict := some dx, data := .fields fv } C (some oD) := ⟨hx, rfl, rfl, hoD⟩
  obtain ⟨B, bmB, SF, ov⟩ := T.st
  obtain ⟨cd, hcd, hh⟩ := PySem.W.any_some T.hdC
  have hcls : Looks (model prog w) hp (classData C) cd := looks_clsIn X hcd
  refine osa_openX (s := ⟨hp, g, d, t, os⟩) SF X I ov (taker_none ha) fun b => ?_
  show wpAny _ _ (storeInOwnDict (.ref x) (.ref C) (.str name tk) name v b) _ _ _
  obtain ⟨nm, bs, mro, ns, qn, hd, sn, sb, ab, col, del⟩ := cd
  dsimp only at hh
  subst hh
  unfold storeInOwnDict ownDictForStores
  repeat (first
    | with_reducible refine OEX.store_in_old hns hw hz ?_
    | with_reducible refine wpAny_loadPart_at hx ?_
    | with_reducible refine hcls.at ?_
    | wp_step)
  intro h' tk' hn' hs
  exact hq h' tk' (fun b o hb ho => (hs.2 b hb).trans ho) hn'
end
end K70
set_option maxRecDepth 100000
set_option maxHeartbeats 4000000
namespace K70
open PySem PySem.Spec PyProof.Rows L2
/-! ### an error as a tracked object -/
/-- at a: an error of the class at C, its own dict d -/
def xv (a C : Addr) (d : Option Addr) : HO := .ext fun h => ∃ (oe : Obj) (vs : Array Value), h.get? a = some oe ∧ oe.cls = .ref C ∧ oe.dict = d ∧ oe.data = .fields vs
theorem xv_ok {P : Program} {w : World} {H : Hp} {h : Heap} {a C : Addr} {d : Option Addr} {oe : Obj} {vs : Array Value} (e : h.get? a = some oe) (c : oe.cls = .ref C) (dd : oe.dict = d) (f : oe.data = .fields vs) : ObjOk P w H h a (xv a C d) :=
  ⟨⟨oe, vs, e, c, dd, f⟩, ⟨oe, e⟩, fun h1 h2 z k => by
    obtain ⟨oe', vs', e', r⟩ := z
    exact ⟨oe', vs', k _ e', r⟩⟩
theorem xv_at {P : Program} {w : World} {H : Hp} {h : Heap} {a C : Addr} {d : Option Addr} (hok : HOk P w H h) (e : H a = some (xv a C d)) : ∃ (oe : Obj) (vs : Array Value), h.get? a = some oe ∧ oe.cls = .ref C ∧ oe.dict = d ∧ oe.data = .fields vs := by
  have x : ObjOk P w H h a (.ext fun h => ∃ (oe : Obj) (vs : Array Value), h.get? a = some oe ∧ oe.cls = .ref C ∧ oe.dict = d ∧ oe.data = .fields vs) := hok a _ e
  exact x.1
/-- an error with its fields -/
def Err (H : Hp) (a C : Addr) (fs : List (Str × V)) : Prop := (fs = [] ∧ H a = some (xv a C none)) ∨ ∃ d, H a = some (xv a C (some d)) ∧ H d = some (exd d fs)
theorem Err.same {H H' : Hp} {a C : Addr} {fs : List (Str × V)} (s : Same H H') (x : Err H a C fs) : Err H' a C fs := by
  rcases x with ⟨e, h⟩ | ⟨d, h1, h2⟩
  · exact .inl ⟨e, s _ _ h⟩
  · exact .inr ⟨d, s _ _ h1, s _ _ h2⟩
section
variable {X : Cx} {pins : List (Addr × Obj)} {σ : L2.St} {H : Hp} {s : Shared} {a C dx : Addr} {f : Str} {y : V} {u : Value} {fs : List (Str × V)}
/-- the made object is told as an error from now on -/
theorem inv_tell {d : Option Addr} (I : Inv X pins σ H s) (e : H a = some (exo a C d)) : Inv X pins σ (upd H a (xv a C d)) s := by
  obtain ⟨t1, ho⟩ := exo_at I.hok e
  have mu : Mut (H a) := by rw [e]; exact True.intro
  have J := I.write (t' := s.toks) (h' := s.heap) (x := a) (e := a) (o := xv a C d) mu (.inl rfl) (fun _ _ _ z => z) ⟨_, ho⟩ (xv_ok ho rfl rfl rfl)
  exact J
theorem xst_new {Q : Unit → Shared → Prop} {E : Value → Shared → Prop} {A : Around} (T : XC X.K C) (I : Inv X pins σ H s) (e : H a = some (exo a C none)) (hno : PySem.W.findIn X.K (.ref C) f = some none) (ry : RelV y u)
    (h : ∀ dx s', H dx = none → dx ≠ a → Inv X pins σ (upd (upd H dx (exd dx [(f, y)])) a (exo a C (some dx))) s' → Q () s') : wpAny (model X.prog X.w) A (setAttr (.ref a) f u) Q E s := by
  obtain ⟨t1, ho⟩ := exo_at I.hok e
  obtain ⟨hp, g, d, t, os⟩ := s
  refine PySem.W.set_plain I.kIn (od := none) ⟨ho, rfl, rfl, trivial⟩ T.sa ?_
  refine osaX_new T I.kIn ho hno fun h' tk' dx k dn dne hx hn => ?_
  have ndx : H dx = none := I.hok.fresh dn
  have old : ∀ {b : Addr} {o : Obj}, hp.get? b = some o → b ≠ dx := fun {b o} q z => by
    rw [z] at q
    exact absurd (Nat.lt_of_lt_of_le (Heap.lt_size q) dn) (Nat.lt_irrefl _)
  have nota : ∀ {b : Addr}, H b = none → b ≠ a := fun {b} n z => by
    rw [z, e] at n
    cases n
  have far : ∀ {b : Addr}, b ≠ a → b ≠ dx → upd (upd H dx (exd dx [(f, y)])) a (exo a C (some dx)) b = H b := fun {b} h1 h2 => by
    rw [upd_ne h1, upd_ne h2]
  have other : ∀ {b : Addr} {o : HO}, H b = some o → exo a C none ≠ o → upd (upd H dx (exd dx [(f, y)])) a (exo a C (some dx)) b = some o := fun {b o} q n =>
    (far (at_ne e q n) (ne_of_none q ndx)).trans q
  have U : Un X.fs [] H (upd (upd H dx (exd dx [(f, y)])) a (exo a C (some dx))) hp h' :=
    ⟨fun b o q n _ _ => k b o (nota n) q, fun b o q n _ _ => ⟨o.slots, k b o (nota n) q⟩, fun b o q n _ => (far (nota n) (old q)).trans n,
      fun b o q _ => by
        by_cases hb : b = a
        · rw [hb]
          exact ⟨_, hx⟩
        · exact ⟨o, k b o hb q⟩,
      fun b xs q => other q exo_tup, fun b o v q => other q exo_frz, fun b ps q => ⟨#[], by rw [other q exo_tbl]; simp⟩⟩
  refine h dx _ ndx dne (I.un (t' := tk') U fun b o q => ?_)
  by_cases hb : b = a
  · subst hb
    rw [upd_same] at q
    cases q
    exact exo_ok hx
  rw [upd_ne hb] at q
  by_cases hd : b = dx
  · subst hd
    rw [upd_same] at q
    cases q
    exact exd_ok hn (relO_put (fs := []) ry fun g => True.intro)
  rw [upd_ne hd] at q
  refine (I.hok b o q).stay (fun c v hc z => k c v ?_ z) (fun c hc => other hc exo_own) (fun c xs hc => other hc exo_tup)
  rcases hc with hc | hc
  · rw [hc]
    exact hb
  · exact at_ne e hc exo_own
theorem xst_old {Q : Unit → Shared → Prop} {E : Value → Shared → Prop} {A : Around} (T : XC X.K C) (I : Inv X pins σ H s) (e : H a = some (exo a C (some dx))) (ed : H dx = some (exd dx fs)) (hl : fs.length ≤ 900) (hno : PySem.W.findIn X.K (.ref C) f = some none) (ry : RelV y u)
    (h : ∀ s', Inv X pins σ (upd H dx (exd dx ((f, y) :: fs))) s' → Q () s') : wpAny (model X.prog X.w) A (setAttr (.ref a) f u) Q E s := by
  obtain ⟨t1, ho⟩ := exo_at I.hok e
  obtain ⟨mA, hns, rel⟩ := exd_at I.hok ed
  have wi := within_of rel
  obtain ⟨hp, g, d, t, os⟩ := s
  obtain ⟨oD, _, _, hoD, _, _⟩ := hns.count wi
  refine PySem.W.set_plain I.kIn (od := some oD) ⟨ho, rfl, rfl, hoD⟩ T.sa ?_
  refine osaX_old T I.kIn ho hns wi (by rw [List.length_map]; omega) hno fun h' tk' k hn => ?_
  obtain ⟨o2, _, _, e2, _⟩ := id hn
  have mu : Mut (H dx) := by rw [ed]; exact True.intro
  exact h _ (I.write (t' := tk') (x := dx) (e := dx) (o := exd dx ((f, y) :: fs)) mu (.inl rfl) k ⟨o2, e2⟩ (exd_ok hn (relO_put ry rel)))
end
/-- self.f = e, self an error that is being made -/
def tXst (K : PySem.W.Frag) (f : Str) (to te : TE) : TS := fun D σ H => te σ H fun y H1 => to σ H1 fun x H2 => ∃ a C : Addr, x = .ref a ∧ XC K C ∧ PySem.W.findIn K (.ref C) f = some none ∧
  ((H2 a = some (exo a C none) ∧ ∀ dx, H2 dx = none → dx ≠ a → D.nx σ (upd (upd H2 dx (exd dx [(f, y)])) a (exo a C (some dx)))) ∨
    ∃ (dx : Addr) (fs : List (Str × V)), H2 a = some (exo a C (some dx)) ∧ H2 dx = some (exd dx fs) ∧ fs.length ≤ 900 ∧ D.nx σ (upd H2 dx (exd dx ((f, y) :: fs))))
theorem ps_xst {X : Cx} {o e : Expr} {to te : TE} {f : Str} {p' pos : Pos} (ho : PE X o to) (he : PE X e te) (hs : swapsWith e (some (.Attribute o f p')) pos.line X.env = pure false := by rfl) :
    PS X (.Assign [.Attribute o f p'] e pos) (tXst X.K f to te) := by
  refine ⟨fun pins s σ H D I h => plainObj_wpAny_Assign_Attribute (thn (he.run pins s σ H _ I h) fun v s1 ⟨y, H1, I1, r1, q1⟩ => ?_) hs⟩
  refine thn (ho.run pins s1 σ H1 _ I1 q1) fun u s2 ⟨x, H2, I2, r2, a, C, ex, T, hno, q⟩ => ?_
  subst ex
  obtain rfl : u = Value.ref a := r2
  rcases q with ⟨ea, q⟩ | ⟨dx, fs, ea, ed, hl, q⟩
  · exact xst_new T I2 ea hno r1 fun dx s' n ne J => ⟨σ, _, J, q dx n ne⟩
  · exact xst_old T I2 ea ed hl hno r1 fun s' J => ⟨σ, _, J, q⟩
/-! ### making an error -/
/-- C(..): the __init__ at fI of the class at C keeps sp -/
def tXmk (C : Addr) (sp : Sp) (gV : List V → List V) (ta : TA) : TE := fun σ H Q => ta σ H fun vs H1 => vs.length ≤ 100 ∧ ∀ a, H1 a = none →
  sp (.ref a :: gV vs) (upd H1 a (exo a C none)) (fun v H2 => v = .non ∧ ∃ d, H2 a = some (exo a C d) ∧ Q (.ref a) (upd H2 a (xv a C d))) E0
section
variable {X : Cx} {x : Str} {C fI : Addr} {k : Nat} {fd : FuncData} {ps : List Str} {sp : Sp} {e : Expr} {es : List Expr} {ta : TA} {p pos : Pos}
theorem xmk_end {pins : List (Addr × Obj)} {σ : L2.St} {H1 : Hp} {Q : VK} {hp : Heap} {g : Array GenState} {dr : Drawn} {tk : Nat} {os : OsState} {us : List Value} (A : Around) (I1 : Inv X pins σ H1 ⟨hp, g, dr, tk, os⟩) {r : Result} {s' : Shared}
    (hq' : CR CX0 X.stack X.prog X.w (upd H1 (hp.objs.size + 1) (exo (hp.objs.size + 1) C none)) ⟨(hp.push (PySem.W.kdv_tup us)).push (PySem.HandSPX.excO C hp.objs.size), g, dr, tk, os⟩
      (fun v H2 => v = .non ∧ ∃ d, H2 (hp.objs.size + 1) = some (exo (hp.objs.size + 1) C d) ∧ Q (.ref (hp.objs.size + 1)) (upd H2 (hp.objs.size + 1) (xv (hp.objs.size + 1) C d))) E0 r s') :
    PySem.W.InitBack (hp.objs.size + 1) (fun r s2 => match r with
      | .ok (.ret v) => EP X pins σ Q v s2
      | .ok _ => False
      | .error e => X.xe e s2) r s' := by
  have kk : ∀ b o, hp.get? b = some o → ((hp.push (PySem.W.kdv_tup us)).push (PySem.HandSPX.excO C hp.objs.size)).get? b = some o := fun b o e => Heap.get?_push_of_some _ (Heap.get?_push_of_some _ e)
  have hg : ((hp.push (PySem.W.kdv_tup us)).push (PySem.HandSPX.excO C hp.objs.size)).get? (hp.objs.size + 1) = some (PySem.HandSPX.excO C hp.objs.size) := by heap_get
  have I2 := I1.laid (t' := tk) (a := hp.objs.size + 1) (o := exo (hp.objs.size + 1) C none) kk (Nat.le_succ _) (exo_ok hg)
  cases r with
  | error e => exact (show False from hq').elim
  | ok fl =>
    cases fl with
    | ret u =>
      obtain ⟨v, H2, I3, rv, ev, d, ea, q⟩ := I2.after hq'
      subst ev
      exact ⟨rv, ⟨V.ref (hp.objs.size + 1), _, inv_tell I3 ea, rfl, q⟩⟩
    | next => exact False.elim hq'
    | brk => exact False.elim hq'
    | cont => exact False.elim hq'
theorem xmk_start {pins : List (Addr × Obj)} {σ : L2.St} {H1 : Hp} {hp : Heap} {g : Array GenState} {dr : Drawn} {tk : Nat} {os : OsState} (us : List Value) (I1 : Inv X pins σ H1 ⟨hp, g, dr, tk, os⟩) :
    Inv X pins σ (upd H1 (hp.objs.size + 1) (exo (hp.objs.size + 1) C none)) ⟨(hp.push (PySem.W.kdv_tup us)).push (PySem.HandSPX.excO C hp.objs.size), g, dr, tk, os⟩ := by
  have kk : ∀ b o, hp.get? b = some o → ((hp.push (PySem.W.kdv_tup us)).push (PySem.HandSPX.excO C hp.objs.size)).get? b = some o := fun b o e => Heap.get?_push_of_some _ (Heap.get?_push_of_some _ e)
  have hg : ((hp.push (PySem.W.kdv_tup us)).push (PySem.HandSPX.excO C hp.objs.size)).get? (hp.objs.size + 1) = some (PySem.HandSPX.excO C hp.objs.size) := by heap_get
  exact I1.laid (t' := tk) (a := hp.objs.size + 1) (o := exo (hp.objs.size + 1) C none) kk (Nat.le_succ _) (exo_ok hg)
theorem len100 {n : Nat} (h : n ≤ 100) : n ≤ sizeLine := Nat.le_trans h (by decide)
/-- C(e, ..) -/
theorem pe_xmk (T : XC X.K C) (iC : PySem.W.findIn X.K (.ref C) "__init__" = some (some (.ref fI))) (tI : PySem.W.typeIn X.K (.ref fI) = some (.type "function")) (F1 : FnOk X.prog X.w X.K X.mg X.base CX0 k fI fd ps sp) (hr : Room (k + 1) X.A)
    (hb : Binds X.K fd ps []) (hg : Gl X x) (hm : X.mg x = some (.ref C)) (ha : PA X (e :: es) ta) (hdb : (x == ("__debug__" : Str)) = false := by decide) (he : starEach (e :: es) X.env = (false, eval e X.env) :: starEach es X.env := by rfl)
    (hpl : (backTo pos (starEach es X.env)).any (·.1) = false := by rfl) : PE X (.Call (.Name x p) (e :: es) [] pos) (tXmk C sp id ta) := by
  refine ⟨fun pins s σ H Q I h => wpAny_Call_Name_kw (ld_glob I hg hm ?_ hdb)⟩
  refine PySem.W.callWith_K (h₀ := X.base) I.ok.mod.kin T.kC (thn (ha.run pos pins s σ H _ I h) fun us s1 ⟨vs, H1, I1, r1, hz, q1⟩ => ⟨I1.kIn, ?_⟩) he hpl
  show wpAny _ _ (call (.ref C) us) _ _ _
  obtain ⟨B, newId, initId, bmB, F, q⟩ := T.cr
  obtain ⟨nm, N, qn, bs, bm, hdct, sn, sub, ab, col, dd, k0, k1, k2, k3, k5, hC, hT⟩ := PySem.W.excInit_of I1.kIn q
  obtain ⟨hp, g, dr, tk, os⟩ := s1
  have q2 := q1 (hp.objs.size + 1) (I1.hok.fresh (Nat.le_succ _))
  have I2 := xmk_start (C := C) us I1
  have r2 : Vals (V.ref (hp.objs.size + 1) :: vs) (Value.ref (hp.objs.size + 1) :: us) := .cons rfl r1
  have hl : (Value.ref (hp.objs.size + 1) :: us ++ []).length = ps.length := by
    rw [List.append_nil, ← r2.length]
    exact F1.len _ _ _ _ q2
  have hus : us.length ≤ sizeLine := by
    rw [← Paired.length r1]
    exact len100 hz
  have hb2 := hb _ (Value.ref (hp.objs.size + 1) :: us) I2.kIn hl
  rw [List.append_nil] at hb2
  refine wpAny_call (PySem.HandSPX.call_own F hT hC (PySem.W.looks_findIn I1.kIn iC) (fun self => PySem.W.bind_fn I1.kIn self tI) hus ?_)
  refine codeAny_mono (F1.run _ X.stack _ _ ⟨Value.ref (hp.objs.size + 1) :: us, []⟩ (Value.ref (hp.objs.size + 1) :: us) _ _ E0 (hr.make C us []) (I2.env0.make C us []) hb2 r2 q2) fun r s' hq' => ?_
  exact xmk_end X.A I1 hq'
/-- C(k = v, ..); gV, g put the values in the parameters' order -/
theorem pe_xmkK {kws : List Keyword} {tk : TA} {ks : List Str} {gV : List V → List V} {gU : List Value → List Value} (T : XC X.K C) (iC : PySem.W.findIn X.K (.ref C) "__init__" = some (some (.ref fI))) (tI : PySem.W.typeIn X.K (.ref fI) = some (.type "function"))
    (F1 : FnOk X.prog X.w X.K X.mg X.base CX0 k fI fd ps sp) (hr : Room (k + 1) X.A) (hrel : ∀ {vs : List V} {us : List Value}, Vals vs us → Vals (gV vs) (gU us))
    (hb : ∀ (s : Shared) (a : Value) (us : List Value), (a :: gU us).length = ps.length → BindsTo s fd ⟨[a], ks.zip us⟩ (ps.zip (a :: gU us))) (hg : Gl X x) (hm : X.mg x = some (.ref C)) (hkw : PK X kws tk)
    (hall : (backToKw pos (keywordEach kws X.env)).all (·.1.isSome) = true := by rfl) (hks : (backToKw pos (keywordEach kws X.env)).filterMap (·.1) = ks := by rfl) (hdb : (x == ("__debug__" : Str)) = false := by decide)
    (hpl : ((backTo pos (starEach [] X.env)).any (·.1) || (backToKw pos (keywordEach kws X.env)).any (·.1.isNone)) = false := by rfl) : PE X (.Call (.Name x p) [] kws pos) (tXmk C sp gV tk) := by
  refine ⟨fun pins s σ H Q I h => wpAny_Call_Name_kw (ld_glob I hg hm ?_ hdb)⟩
  refine PySem.W.callWith_KW0 (h₀ := X.base) I.ok.mod.kin T.kC hall (thn (hkw.run pos pins s σ H _ I h) fun us s1 ⟨vs, H1, I1, r1, hz, q1⟩ => ⟨I1.kIn, ?_⟩) hpl
  rw [hks]
  show wpAny _ _ (call (.ref C) [] (ks.zip us)) _ _ _
  obtain ⟨B, newId, initId, bmB, F, q⟩ := T.cr
  obtain ⟨nm, N, qn, bs, bm, hdct, sn, sub, ab, col, dd, k0, k1, k2, k3, k5, hC, hT⟩ := PySem.W.excInit_of I1.kIn q
  obtain ⟨hp, g, dr, tk, os⟩ := s1
  have q2 := q1 (hp.objs.size + 1) (I1.hok.fresh (Nat.le_succ _))
  have I2 := xmk_start (C := C) [] I1
  have r2 : Vals (V.ref (hp.objs.size + 1) :: gV vs) (Value.ref (hp.objs.size + 1) :: gU us) := .cons rfl (hrel r1)
  have hl : (Value.ref (hp.objs.size + 1) :: gU us).length = ps.length := by
    rw [← r2.length]
    exact F1.len _ _ _ _ q2
  refine wpAny_call (Kw.call_kw F hT hC (PySem.W.looks_findIn I1.kIn iC) (fun self => PySem.W.bind_fn I1.kIn self tI) ?_)
  refine codeAny_mono (F1.run _ X.stack _ _ ⟨[Value.ref (hp.objs.size + 1)], ks.zip us⟩ (Value.ref (hp.objs.size + 1) :: gU us) _ _ E0 (hr.make C [] (ks.zip us)) (I2.env0.make C [] (ks.zip us)) (hb _ _ _ hl) r2 q2) fun r s' hq' => ?_
  exact xmk_end X.A I1 hq'
end
/-! ### reading a field, isinstance -/
/-- e.f of an error -/
def tXfv (K : PySem.W.Frag) (f : Str) (te : TE) : TE := fun σ H Q => te σ H fun x H1 => ∃ (a C : Addr) (fs : List (Str × V)) (v : V), x = .ref a ∧ XC K C ∧ PySem.W.findIn K (.ref C) f = some none ∧ Err H1 a C fs ∧ fs.lookup f = some v ∧ Q v H1
theorem pe_xfv {X : Cx} {e : Expr} {te : TE} {pos : Pos} {f : Str} (he : PE X e te) (hb : attributeBase e f X.env (eval e X.env) = eval e X.env := by rfl) : PE X (.Attribute e f pos) (tXfv X.K f te) := by
  refine ⟨fun pins s σ H Q I h => attr_of hb (thn (he.run pins s σ H _ I h) fun u s1 hh => ?_)⟩
  obtain ⟨x, H1, I1, rx, a, C, fs, v, ex, T, hno, er, l, q⟩ := hh
  subst ex
  obtain rfl : u = Value.ref a := rx
  rcases er with ⟨e0, _⟩ | ⟨dd, ha, hd⟩
  · rw [e0] at l
    cases l
  obtain ⟨oe, vs, ho, hc, hdi, hda⟩ := xv_at I1.hok ha
  obtain ⟨mA, hns, hr⟩ := exd_at I1.hok hd
  obtain ⟨od, hod, hl⟩ := lookIn_ns hns
  obtain ⟨u, hu, ru⟩ := RelO.some_of (v := v) (o := mA f) (by rw [← l]; exact hr f)
  have J : PySem.W.InstAt s1.heap a oe C (some od) := ⟨ho, hc, by unfold PySem.W.notCls; rw [hda] <;> rfl, by rw [hdi]; exact hod⟩
  exact HandSPX.exc_get I1.kIn J T.ga T.gg T.exC (PySem.W.findObj_own T.hdC hno rfl (by rw [hl, hu])) (handed_of ru) ⟨v, H1, I1.tok _, ru, q⟩
/-- isinstance(e, c), e an error -/
def rIsX (K : PySem.W.Frag) : List V → Hp → VK → Prop := fun xs H Q => ∃ (a C : Addr) (c : V) (fs : List (Str × V)) (u : Value) (b : Bool), xs = [.ref a, c] ∧ ClsV c u ∧ XC K C ∧ Err H a C fs ∧ PySem.W.kitOne K (.ref C) u = some b ∧ Q (.bl b) H
theorem call_isX {X : Cx} : CallR X (.builtin "isinstance") (rIsX X.K) := by
  intro pins s σ H xs us Q I r h
  obtain ⟨a, C, c, fs, u, b, rfl, k, T, er, e, q⟩ := h
  obtain ⟨u1, u2, rfl, r1, r2⟩ := vals2 r
  have e2 := k.eq r2
  subst e2
  cases r1
  have J : ∃ (oe : Obj) (od : Option Obj), PySem.W.InstAt s.heap a oe C od := by
    rcases er with ⟨_, ha⟩ | ⟨dd, ha, hd⟩
    · obtain ⟨oe, vs, ho, hc, hdi, hda⟩ := xv_at I.hok ha
      exact ⟨oe, none, ho, hc, by unfold PySem.W.notCls; rw [hda] <;> rfl, by rw [hdi]; trivial⟩
    · obtain ⟨oe, vs, ho, hc, hdi, hda⟩ := xv_at I.hok ha
      obtain ⟨mA, hns, hr⟩ := exd_at I.hok hd
      obtain ⟨od, hod, hl⟩ := lookIn_ns hns
      exact ⟨oe, some od, ho, hc, by unfold PySem.W.notCls; rw [hda] <;> rfl, by rw [hdi]; exact hod⟩
  obtain ⟨oe, od, J⟩ := J
  exact PySem.W.kia_one (PySem.W.kitx_exc T.cl T.ga T.gg T.exC T.ca T.sg T.tk T.mo) I.kIn J e (fun z => nomatch z) fun tk => ⟨.bl b, H, I.kept (t' := tk) fun _ _ z => z, rfl, q⟩
end K70
set_option maxRecDepth 100000
set_option maxHeartbeats 4000000
namespace K70
open PySem PySem.Spec PyProof.Rows L2
/-- __init__ of an error class: it keeps what it is given -/
def spInit (K : PySem.W.Frag) (ps : List Str) : Sp := fun vs H Q _ => ∃ (a C : Addr) (ws : List V), vs = .ref a :: ws ∧ ws.length = ps.length ∧ H a = some (exo a C none) ∧ XC K C ∧ (∀ f ∈ ps, PySem.W.findIn K (.ref C) f = some none) ∧
  ∀ H' d fs, H' a = some (exo a C (some d)) → H' d = some (exd d fs) → d ≠ a → (∀ (i : Nat) (f : Str) (v : V), ps[i]? = some f → ws[i]? = some v → fs.lookup f = some v) → (∀ b o, b ≠ a → H b = some o → H' b = some o) → Q .non H'
section
variable {P : Program} {w : World} {K : PySem.W.Frag} {mg : Str → Option Value} {base : Heap} {f1 f2 qual : Str} {args : Arguments} {scope : Scope} {f : Addr} {fd : FuncData}
theorem lookup_one (f : Str) (v : V) : List.lookup f [(f, v)] = some v := by simp [List.lookup]
theorem ok_init1 {p1 p2 p3 p4 : Pos} (F : FunD K "__init__" qual args [.Assign [.Attribute (.Name "self" p1) f1 p2] (.Name f1 p3) p4] scope [] [] f fd) (S : FnScope ["self", f1] ["self", f1] scope)
    (h1 : (f1 == ("__debug__" : Str)) = false) (h2 : (f1 == ("__classdict__" : Str)) = false) : FnOk P w K mg base CX0 1 f fd ["self", f1] (spInit K [f1]) := by
  have vis : ∀ x ∈ (["self", f1] : List Str), Vis scope x := fun x hx => (S.par x hx).elim (fun z => .inl z) fun z => .inr (.inl z)
  refine F.ok S (fun vs H Q E h => ?_) (fun cdv A outer s H vs Q E hr h => ?_)
  · obtain ⟨a, C, ws, rfl, hl, _⟩ := h
    rw [List.length_cons, hl]
    rfl
  · obtain ⟨a, C, ws, rfl, hl, ea, T, no, q⟩ := h
    obtain ⟨v, rfl⟩ : ∃ v, ws = [v] := List.length_eq_one_iff.mp hl
    refine ⟨_, PSs.nox (pss_one (ps_xst (pe_var (i := 0) rfl (vis _ (by simp))) (pe_var (i := 1) rfl (vis _ (by simp)) h1 h2))), ?_⟩
    refine ⟨v, rfl, .ref a, rfl, a, C, rfl, T, no _ (by simp), .inl ⟨ea, fun dx n ne => ?_⟩⟩
    refine q _ dx _ upd_same (by rw [upd_ne ne, upd_same]) ne (fun i g u hg hu => ?_) fun b o nb hb => ?_
    · cases i with
      | zero =>
        cases hg
        cases hu
        exact lookup_one _ _
      | succ i => simp at hg
    · rw [upd_ne nb, upd_ne (ne_of_none hb n)]
      exact hb
theorem ok_init2 {p1 p2 p3 p4 q1 q2 q3 q4 : Pos} (F : FunD K "__init__" qual args [.Assign [.Attribute (.Name "self" p1) f1 p2] (.Name f1 p3) p4, .Assign [.Attribute (.Name "self" q1) f2 q2] (.Name f2 q3) q4] scope [] [] f fd)
    (S : FnScope ["self", f1, f2] ["self", f1, f2] scope) (h1 : (f1 == ("__debug__" : Str)) = false) (h2 : (f1 == ("__classdict__" : Str)) = false) (h3 : (f2 == ("__debug__" : Str)) = false) (h4 : (f2 == ("__classdict__" : Str)) = false) (h12 : (f1 == f2) = false) :
    FnOk P w K mg base CX0 1 f fd ["self", f1, f2] (spInit K [f1, f2]) := by
  have vis : ∀ x ∈ (["self", f1, f2] : List Str), Vis scope x := fun x hx => (S.par x hx).elim (fun z => .inl z) fun z => .inr (.inl z)
  refine F.ok S (fun vs H Q E h => ?_) (fun cdv A outer s H vs Q E hr h => ?_)
  · obtain ⟨a, C, ws, rfl, hl, _⟩ := h
    rw [List.length_cons, hl]
    rfl
  · obtain ⟨a, C, ws, rfl, hl, ea, T, no, q⟩ := h
    obtain ⟨v, u, rfl⟩ : ∃ v u, ws = [v, u] := by
      match ws, hl with
      | [v, u], _ => exact ⟨v, u, rfl⟩
    refine ⟨_, PSs.nox (pss_cons (ps_xst (pe_var (i := 0) rfl (vis _ (by simp))) (pe_var (i := 1) rfl (vis _ (by simp)) h1 h2)) (pss_one (ps_xst (pe_var (i := 0) rfl (vis _ (by simp))) (pe_var (i := 2) rfl (vis _ (by simp)) h3 h4)))), ?_⟩
    refine ⟨v, rfl, .ref a, rfl, a, C, rfl, T, no _ (by simp), .inl ⟨ea, fun dx n ne => ?_⟩⟩
    have ed : (upd (upd H dx (exd dx [(f1, v)])) a (exo a C (some dx))) dx = some (exd dx [(f1, v)]) := by rw [upd_ne ne, upd_same]
    refine ⟨u, rfl, .ref a, rfl, a, C, rfl, T, no _ (by simp), .inr ⟨dx, _, upd_same, ed, (by show 1 ≤ 900; decide), ?_⟩⟩
    refine q _ dx ((f2, u) :: [(f1, v)]) ?_ upd_same ne (fun i g z hg hz => ?_) fun b o nb hb => ?_
    · rw [upd_ne (Ne.symm ne), upd_same]
    · rcases i with _ | _ | i
      · cases hg
        cases hz
        rw [lookup_put, if_neg (by intro e; rw [e] at h12; simp at h12)]
        exact lookup_one _ _
      · cases hg
        cases hz
        rw [lookup_put, if_pos rfl]
      · simp at hg
    · have nd := ne_of_none hb n
      rw [upd_ne nd, upd_ne nb, upd_ne nd]
      exact hb
end
/-- an error class that is ready -/
structure EC (P : Program) (w : World) (K : PySem.W.Frag) (mg : Str → Option Value) (base : Heap) (nm : Str) (C : Addr) (ps : List Str) : Prop where
  x : XC K C
  g : mg nm = some (.ref C)
  no : ∀ f ∈ ps, PySem.W.findIn K (.ref C) f = some none
  ini : ∃ (fI : Addr) (fd : FuncData), PySem.W.findIn K (.ref C) "__init__" = some (some (.ref fI)) ∧ PySem.W.typeIn K (.ref fI) = some (.type "function") ∧ FnOk P w K mg base CX0 1 fI fd (("self" : Str) :: ps) (spInit K ps) ∧ Binds K fd (("self" : Str) :: ps) [] ∧
    ∀ (s : Shared) (a : Value) (us : List Value), us.length = ps.length → BindsTo s fd ⟨[a], ps.reverse.zip us⟩ ((("self" : Str) :: ps).zip (a :: us.reverse))
section
variable {X : Cx} {x : Str} {C : Addr} {k : Nat} {ps : List Str} {e : Expr} {es : List Expr} {ta : TA} {p pos : Pos}
theorem pe_err (c : EC X.prog X.w X.K X.mg X.base x C ps) (hr : Room k X.A) (le : 2 ≤ k) (hg : Gl X x) (ha : PA X (e :: es) ta) (hdb : (x == ("__debug__" : Str)) = false := by decide) (he : starEach (e :: es) X.env = (false, eval e X.env) :: starEach es X.env := by rfl)
    (hpl : (backTo pos (starEach es X.env)).any (·.1) = false := by rfl) : PE X (.Call (.Name x p) (e :: es) [] pos) (tXmk C (spInit X.K ps) id ta) := by
  obtain ⟨fI, fd, h1, h2, F, hb, _⟩ := c.ini
  exact pe_xmk c.x h1 h2 F (hr.mono le) hb hg c.g ha hdb he hpl
theorem vals_rev {vs : List V} {us : List Value} (h : Vals vs us) : Vals vs.reverse us.reverse := by
  induction h with
  | nil => exact .nil
  | cons r t ih =>
    rw [List.reverse_cons, List.reverse_cons]
    exact ih.append (.cons r .nil)
theorem pe_errK {kws : List Keyword} {tk : TA} {ks : List Str} (c : EC X.prog X.w X.K X.mg X.base x C ps) (hr : Room k X.A) (le : 2 ≤ k) (hg : Gl X x) (hkw : PK X kws tk) (hps : ks = ps.reverse)
    (hall : (backToKw pos (keywordEach kws X.env)).all (·.1.isSome) = true := by rfl) (hks : (backToKw pos (keywordEach kws X.env)).filterMap (·.1) = ks := by rfl) (hdb : (x == ("__debug__" : Str)) = false := by decide)
    (hpl : ((backTo pos (starEach [] X.env)).any (·.1) || (backToKw pos (keywordEach kws X.env)).any (·.1.isNone)) = false := by rfl) : PE X (.Call (.Name x p) [] kws pos) (tXmk C (spInit X.K ps) List.reverse tk) := by
  obtain ⟨fI, fd, h1, h2, F, _, hb⟩ := c.ini
  subst hps
  refine pe_xmkK (gU := List.reverse) c.x h1 h2 F (hr.mono le) vals_rev (fun s a us hl => ?_) hg c.g hkw hall hks hdb hpl
  refine hb s a us ?_
  rw [List.length_cons, List.length_cons, List.length_reverse] at hl
  omega
end
/-- what a making hands back -/
theorem mk_facts {C a d : Addr} {fs : List (Str × V)} {H H' : Hp} (na : H a = none) (hd : H' d = some (exd d fs)) (hda : d ≠ a) (keep : ∀ b o, b ≠ a → (upd H a (exo a C none)) b = some o → H' b = some o) :
    Same H (upd H' a (xv a C (some d))) ∧ Err (upd H' a (xv a C (some d))) a C fs := by
  refine ⟨fun b o hb => ?_, .inr ⟨d, upd_same, by rw [upd_ne hda]; exact hd⟩⟩
  have nb := ne_of_none hb na
  rw [upd_ne nb]
  exact keep b o nb (by rw [upd_ne nb]; exact hb)
end K70
set_option maxRecDepth 100000
set_option maxHeartbeats 4000000
namespace K70
open PySem PySem.Spec PyProof.Rows L2
/-- C() of an own error class without an __init__ -/
def tX0 (C : Addr) : TE := fun _ H Q => ∀ a, H a = none → Q (.ref a) (upd H a (xv a C none))
theorem pe_x0 {X : Cx} {C : Addr} {B newId initId : String} {bmB : List Value} {x : Str} {p pos : Pos} (F : ExcBaseFacts B newId initId bmB) (q : PySem.W.excIn X.K C bmB newId = true) (gC : X.mg x = some (.ref C)) (kC : PySem.W.keepIn X.K (.ref C) = true) (hg : Gl X x)
    (hdb : (x == ("__debug__" : Str)) = false := by decide) : PE X (.Call (.Name x p) [] [] pos) (tX0 C) := by
  refine ⟨fun pins s σ H Q I h => wpAny_Call_Name_kw (ld_glob I hg gC ?_ hdb)⟩
  refine PySem.W.callWith_K0 I.kIn kC ?_
  show wpAny _ _ (call (.ref C) []) _ _ _
  obtain ⟨bm, N, nm, qn, bs, hdct, sn, sub, ab, col, dd, k0, k1, k2, k3, k5, mN, hC, hN, hni, T⟩ := exc_obj I.kIn q
  refine wpAny_call_exc_subT F T hC hN hni (fun h' a hm => ?_) (Nat.zero_le _)
  have hn : H a = none := I.hok.gone hm.new
  obtain ⟨t, ht, _, _⟩ := hm.there
  exact ⟨.ref a, upd H a (xv a C none), I.laidN hm.keeps hm.new hn (xv_ok ht rfl rfl rfl), rfl, h a hn⟩
/-! ### rows of errors -/
def ButR (r : Addr) (H H' : Hp) : Prop := ∀ a o, a ≠ r → H a = some o → H' a = some o
theorem ButR.trans {r : Addr} {H H1 H2 : Hp} (x : ButR r H H1) (y : ButR r H1 H2) : ButR r H H2 := fun a o n h => y a o n (x a o n h)
theorem ButR.of {r : Addr} {H H' : Hp} (s : Same H H') : ButR r H H' := fun a o _ h => s a o h
structure Row (x y : V) (r : Addr) (H : Hp) (nm base : Str) (C : Addr) (v : V) : Prop where
  ex : ∃ (p m t : Addr) (es qs : List Addr), v = .ref p ∧ p ≠ r ∧ H p = some (.lst [.str nm, .str base, .ref m, .ref t]) ∧ m ≠ r ∧ H m = some (.lst (es.map V.ref)) ∧ t ≠ r ∧ H t = some (.lst (qs.map V.ref)) ∧ es.length = qs.length ∧ es.length ≤ 2 ∧
    (∀ e ∈ es, ∃ fs, Err H e C fs) ∧ ∀ q ∈ qs, q ≠ r ∧ ∃ vs, H q = some (.lst vs) ∧ vs.length ≤ 2 ∧ vs = [x, y].take vs.length
theorem Err.but {r C a : Addr} {H H' : Hp} {rs : List V} {fs : List (Str × V)} (hr : H r = some (.lst rs)) (b : ButR r H H') (x : Err H a C fs) : Err H' a C fs := by
  have nx : ∀ {a : Addr} {φ : Heap → Prop}, H a = some (.ext φ) → a ≠ r := fun {a φ} h e => by
    rw [e, hr] at h
    cases h
  rcases x with ⟨e, h⟩ | ⟨d, h1, h2⟩
  · exact .inl ⟨e, b _ _ (nx h) h⟩
  · exact .inr ⟨d, b _ _ (nx h1) h1, b _ _ (nx h2) h2⟩
theorem Row.but {x y : V} {r C : Addr} {H H' : Hp} {rs : List V} {nm base : Str} {v : V} (hr : H r = some (.lst rs)) (b : ButR r H H') (R : Row x y r H nm base C v) : Row x y r H' nm base C v := by
  obtain ⟨p, m, t, es, qs, e, n1, h1, n2, h2, n3, h3, l, l2, he, hq⟩ := R.ex
  refine ⟨p, m, t, es, qs, e, n1, b _ _ n1 h1, n2, b _ _ n2 h2, n3, b _ _ n3 h3, l, l2, fun e he' => ?_, fun q hq' => ?_⟩
  · obtain ⟨fs, z⟩ := he e he'
    exact ⟨fs, z.but hr b⟩
  · obtain ⟨n, vs, h, z⟩ := hq q hq'
    exact ⟨n, vs, b _ _ n h, z⟩
def RowsOk (x y : V) (r : Addr) (H : Hp) : List (Str × Str × Addr) → List V → Prop
  | [], [] => True
  | q :: L, v :: vs => Row x y r H q.1 q.2.1 q.2.2 v ∧ RowsOk x y r H L vs
  | _, _ => False
theorem RowsOk.but {x y : V} {r : Addr} {H H' : Hp} {rs : List V} (hr : H r = some (.lst rs)) (b : ButR r H H') : ∀ {L : List (Str × Str × Addr)} {vs : List V}, RowsOk x y r H L vs → RowsOk x y r H' L vs
  | [], [], _ => True.intro
  | q :: L, v :: vs, h => ⟨h.1.but hr b, RowsOk.but hr b h.2⟩
  | [], _ :: _, h => h.elim
  | _ :: _, [], h => h.elim
theorem RowsOk.snoc {x y : V} {r C : Addr} {H : Hp} {nm base : Str} {v : V} : ∀ {L : List (Str × Str × Addr)} {vs : List V}, RowsOk x y r H L vs → Row x y r H nm base C v → RowsOk x y r H (L ++ [(nm, base, C)]) (vs ++ [v])
  | [], [], _, R => ⟨R, True.intro⟩
  | q :: L, v' :: vs, h, R => ⟨h.1, RowsOk.snoc h.2 R⟩
  | [], _ :: _, h, _ => h.elim
  | _ :: _, [], h, _ => h.elim
theorem RowsOk.len {x y : V} {r : Addr} {H : Hp} : ∀ {L : List (Str × Str × Addr)} {vs : List V}, RowsOk x y r H L vs → vs.length = L.length
  | [], [], _ => rfl
  | q :: L, v :: vs, h => congrArg Nat.succ (RowsOk.len h.2)
  | [], _ :: _, h => h.elim
  | _ :: _, [], h => h.elim
section
variable {K : PySem.W.Frag} {D : Ends} {rest : TS} {x y : V} {r C : Addr} {rows : List V} {z3 z4 : Option V} {H : Hp} {nm base f g : Str}
/-- the row is laid and appended -/
theorem row_end {Q : L2.St → Hp → Prop} {σ : L2.St} {e1 e2 : Addr} {vs : List V} {fs1 fs2 : List (Str × V)} {H1 : Hp} (hr : H r = some (.lst rows)) (hl : rows.length ≤ 100) (s1 : Same H H1) (E1 : Err H1 e1 C fs1) (E2 : Err H1 e2 C fs2) (hv : vs.length ≤ 2) (hv2 : vs = [x, y].take vs.length)
    (k : ∀ H' v, ButR r H H' → H' r = some (.lst (rows ++ [v])) → Row x y r H' nm base C v → Q σ H') {H2 H3 H4 H5 H6 : Hp} {m q1 q2 t p : Addr} (n1 : H1 m = none) (h2 : H2 = upd H1 m (.lst [.ref e1, .ref e2])) (n2 : H2 q1 = none) (h3 : H3 = upd H2 q1 (.lst vs))
    (n3 : H3 q2 = none) (h4 : H4 = upd H3 q2 (.lst vs)) (n4 : H4 t = none) (h5 : H5 = upd H4 t (.lst [.ref q1, .ref q2])) (n5 : H5 p = none) (h6 : H6 = upd H5 p (.lst [.str nm, .str base, .ref m, .ref t])) :
    H6 r = some (.lst rows) ∧ rows.length < sizeLine ∧ Q σ (upd H6 r (.lst (rows ++ [.ref p]))) := by
  have s2 : Same H1 H2 := by rw [h2]; exact same_new n1
  have s3 : Same H2 H3 := by rw [h3]; exact same_new n2
  have s4 : Same H3 H4 := by rw [h4]; exact same_new n3
  have s5 : Same H4 H5 := by rw [h5]; exact same_new n4
  have s6 : Same H5 H6 := by rw [h6]; exact same_new n5
  have r1 := s1 _ _ hr
  have r2 := s2 _ _ r1
  have r3 := s3 _ _ r2
  have r4 := s4 _ _ r3
  have r5 := s5 _ _ r4
  have r6 := s6 _ _ r5
  have bb : ButR r H6 (upd H6 r (.lst (rows ++ [.ref p]))) := fun a o n h => by
    rw [upd_ne n]
    exact h
  have hm : H6 m = some (.lst [.ref e1, .ref e2]) := s6 _ _ (s5 _ _ (s4 _ _ (s3 _ _ (by rw [h2, upd_same]))))
  have hq1 : H6 q1 = some (.lst vs) := s6 _ _ (s5 _ _ (s4 _ _ (by rw [h3, upd_same])))
  have hq2 : H6 q2 = some (.lst vs) := s6 _ _ (s5 _ _ (by rw [h4, upd_same]))
  have ht : H6 t = some (.lst [.ref q1, .ref q2]) := s6 _ _ (by rw [h5, upd_same])
  have hp : H6 p = some (.lst [.str nm, .str base, .ref m, .ref t]) := by rw [h6, upd_same]
  have ne : ∀ {a : Addr} {Hx : Hp}, Hx r = some (.lst rows) → Hx a = none → a ≠ r := fun {a Hx} h1 h2 e => by
    rw [e, h1] at h2
    cases h2
  have R : Row x y r H6 nm base C (.ref p) := ⟨p, m, t, [e1, e2], [q1, q2], rfl, ne r5 n5, hp, ne r1 n1, hm, ne r4 n4, ht, rfl, Nat.le_refl _, fun e he => by
      simp only [List.mem_cons, List.not_mem_nil, or_false] at he
      have s16 := (s2.trans (s3.trans (s4.trans (s5.trans s6))))
      rcases he with rfl | rfl
      · exact ⟨fs1, E1.same s16⟩
      · exact ⟨fs2, E2.same s16⟩, fun q hq => by
      simp only [List.mem_cons, List.not_mem_nil, or_false] at hq
      rcases hq with rfl | rfl
      · exact ⟨ne r2 n2, vs, hq1, hv, hv2⟩
      · exact ⟨ne r3 n3, vs, hq2, hv, hv2⟩⟩
  refine ⟨r6, Nat.lt_of_le_of_lt hl (by decide), k _ _ ((ButR.of (s1.trans (s2.trans (s3.trans (s4.trans (s5.trans s6)))))).trans bb) upd_same (R.but r6 bb)⟩
/-- one = C(x); two = C(f=x); rows.append(..) -/
theorem grp1 (T : XC K C) (no : ∀ z ∈ [f], PySem.W.findIn K (.ref C) z = some none) (hr : H r = some (.lst rows)) (hl : rows.length ≤ 100)
    (k : ∀ H' v e1 e2, ButR r H H' → H' r = some (.lst (rows ++ [v])) → Row x y r H' nm base C v → rest D [some x, some y, some (.ref r), some e1, some e2] H') :
    tSeq (tAsg (tXmk C (spInit K [f]) id (tCons (tVar 0) tNil)) (gName 3)) (tSeq (tAsg (tXmk C (spInit K [f]) List.reverse (tCons (tVar 0) tNil)) (gName 4))
      (tSeq (tDrop (tBM K "list" rAppend (tVar 2) (tCons (tLst (tCons (tC (.str nm)) (tCons (tC (.str base)) (tCons (tLst (tCons (tVar 3) (tCons (tVar 4) tNil)))
        (tCons (tLst (tCons (tLst (tCons (tXfv K f (tVar 3)) tNil)) (tCons (tLst (tCons (tXfv K f (tVar 4)) tNil)) tNil))) tNil))))) tNil))) rest)) D [some x, some y, some (.ref r), z3, z4] H := by
  refine ⟨x, rfl, (by show 1 ≤ 100; decide), fun e1 n1 => ⟨e1, C, [x], rfl, rfl, upd_same, T, no, fun G1 d1 fs1 ha1 hd1 hda1 l1 keep1 => ⟨rfl, some d1, ha1, ?_⟩⟩⟩
  obtain ⟨s1, E1⟩ := mk_facts n1 hd1 hda1 keep1
  generalize upd G1 e1 (xv e1 C (some d1)) = H1 at s1 E1 ⊢
  refine ⟨x, rfl, (by show 1 ≤ 100; decide), fun e2 n2 => ⟨e2, C, [x], rfl, rfl, upd_same, T, no, fun G2 d2 fs2 ha2 hd2 hda2 l2 keep2 => ⟨rfl, some d2, ha2, ?_⟩⟩⟩
  obtain ⟨s2, E2⟩ := mk_facts n2 hd2 hda2 keep2
  generalize upd G2 e2 (xv e2 C (some d2)) = H2 at s2 E2 ⊢
  have s12 := s1.trans s2
  have a1 := l1 0 f x rfl rfl
  have a2 := l2 0 f x rfl rfl
  refine ⟨.ref r, rfl, .inl ⟨rfl, _, .inl (.inl (s12 _ _ hr))⟩, .ref e1, rfl, .ref e2, rfl, (by show 2 ≤ sizeLine; decide), fun m nm1 => ?_⟩
  have s3 := same_new (o := .lst [.ref e1, .ref e2]) nm1
  have E13 := (E1.same s2).same s3
  have E23 := E2.same s3
  refine ⟨.ref e1, rfl, e1, C, fs1, x, rfl, T, no f (by simp), E13, a1, (by show 1 ≤ sizeLine; decide), fun q1 nq1 => ?_⟩
  have s4 := same_new (o := .lst [x]) nq1
  refine ⟨.ref e2, rfl, e2, C, fs2, x, rfl, T, no f (by simp), E23.same s4, a2, (by show 1 ≤ sizeLine; decide), fun q2 nq2 => ?_⟩
  refine ⟨(by show 2 ≤ sizeLine; decide), fun t nt => ⟨(by show 4 ≤ sizeLine; decide), fun p np => ?_⟩⟩
  obtain ⟨w1, w2, w3⟩ := row_end (x := x) (y := y) (Q := fun σ H' => rest D σ H') (σ := [some x, some y, some (.ref r), some (.ref e1), some (.ref e2)]) (nm := nm) (base := base) hr hl s12 (E1.same s2) E2 (vs := [x]) (by show 1 ≤ 2; decide) rfl
    (fun H' v b h R => k H' v _ _ b h R) nm1 rfl nq1 rfl nq2 rfl nt rfl np rfl
  exact ⟨r, rows, .ref p, rfl, rfl, w1, w2, w3⟩
/-- one = C(x, y); two = C(g=y, f=x); rows.append(..) -/
theorem grp2 (T : XC K C) (no : ∀ z ∈ [f, g], PySem.W.findIn K (.ref C) z = some none) (hr : H r = some (.lst rows)) (hl : rows.length ≤ 100)
    (k : ∀ H' v e1 e2, ButR r H H' → H' r = some (.lst (rows ++ [v])) → Row x y r H' nm base C v → rest D [some x, some y, some (.ref r), some e1, some e2] H') :
    tSeq (tAsg (tXmk C (spInit K [f, g]) id (tCons (tVar 0) (tCons (tVar 1) tNil))) (gName 3)) (tSeq (tAsg (tXmk C (spInit K [f, g]) List.reverse (tCons (tVar 1) (tCons (tVar 0) tNil))) (gName 4))
      (tSeq (tDrop (tBM K "list" rAppend (tVar 2) (tCons (tLst (tCons (tC (.str nm)) (tCons (tC (.str base)) (tCons (tLst (tCons (tVar 3) (tCons (tVar 4) tNil)))
        (tCons (tLst (tCons (tLst (tCons (tXfv K f (tVar 3)) (tCons (tXfv K g (tVar 3)) tNil))) (tCons (tLst (tCons (tXfv K f (tVar 4)) (tCons (tXfv K g (tVar 4)) tNil))) tNil))) tNil))))) tNil))) rest)) D [some x, some y, some (.ref r), z3, z4] H := by
  refine ⟨x, rfl, y, rfl, (by show 2 ≤ 100; decide), fun e1 n1 => ⟨e1, C, [x, y], rfl, rfl, upd_same, T, no, fun G1 d1 fs1 ha1 hd1 hda1 l1 keep1 => ⟨rfl, some d1, ha1, ?_⟩⟩⟩
  obtain ⟨s1, E1⟩ := mk_facts n1 hd1 hda1 keep1
  generalize upd G1 e1 (xv e1 C (some d1)) = H1 at s1 E1 ⊢
  refine ⟨y, rfl, x, rfl, (by show 2 ≤ 100; decide), fun e2 n2 => ⟨e2, C, [x, y], rfl, rfl, upd_same, T, no, fun G2 d2 fs2 ha2 hd2 hda2 l2 keep2 => ⟨rfl, some d2, ha2, ?_⟩⟩⟩
  obtain ⟨s2, E2⟩ := mk_facts n2 hd2 hda2 keep2
  generalize upd G2 e2 (xv e2 C (some d2)) = H2 at s2 E2 ⊢
  have s12 := s1.trans s2
  have a1 := l1 0 f x rfl rfl
  have a1' := l1 1 g y rfl rfl
  have a2 := l2 0 f x rfl rfl
  have a2' := l2 1 g y rfl rfl
  refine ⟨.ref r, rfl, .inl ⟨rfl, _, .inl (.inl (s12 _ _ hr))⟩, .ref e1, rfl, .ref e2, rfl, (by show 2 ≤ sizeLine; decide), fun m nm1 => ?_⟩
  have s3 := same_new (o := .lst [.ref e1, .ref e2]) nm1
  have E13 := (E1.same s2).same s3
  have E23 := E2.same s3
  refine ⟨.ref e1, rfl, e1, C, fs1, x, rfl, T, no f (by simp), E13, a1, .ref e1, rfl, e1, C, fs1, y, rfl, T, no g (by simp), E13, a1', (by show 2 ≤ sizeLine; decide), fun q1 nq1 => ?_⟩
  have s4 := same_new (o := .lst [x, y]) nq1
  refine ⟨.ref e2, rfl, e2, C, fs2, x, rfl, T, no f (by simp), E23.same s4, a2, .ref e2, rfl, e2, C, fs2, y, rfl, T, no g (by simp), E23.same s4, a2', (by show 2 ≤ sizeLine; decide), fun q2 nq2 => ?_⟩
  refine ⟨(by show 2 ≤ sizeLine; decide), fun t nt => ⟨(by show 4 ≤ sizeLine; decide), fun p np => ?_⟩⟩
  obtain ⟨w1, w2, w3⟩ := row_end (x := x) (y := y) (Q := fun σ H' => rest D σ H') (σ := [some x, some y, some (.ref r), some (.ref e1), some (.ref e2)]) (nm := nm) (base := base) hr hl s12 (E1.same s2) E2 (vs := [x, y]) (by show 2 ≤ 2; decide) rfl
    (fun H' v b h R => k H' v _ _ b h R) nm1 rfl nq1 rfl nq2 rfl nt rfl np rfl
  exact ⟨r, rows, .ref p, rfl, rfl, w1, w2, w3⟩
/-- rows.append([nm, base, [C()], [[]]]) -/
theorem grp0 {σ : L2.St} (hs : σ[2]? = some (some (.ref r))) (hr : H r = some (.lst rows)) (hl : rows.length ≤ 100) (k : ∀ H' v, ButR r H H' → H' r = some (.lst (rows ++ [v])) → Row x y r H' nm base C v → rest D σ H') :
    tSeq (tDrop (tBM K "list" rAppend (tVar 2) (tCons (tLst (tCons (tC (.str nm)) (tCons (tC (.str base)) (tCons (tLst (tCons (tX0 C) tNil)) (tCons (tLst (tCons (tLst tNil) tNil)) tNil))))) tNil))) rest D σ H := by
  refine ⟨.ref r, hs, .inl ⟨rfl, _, .inl (.inl hr)⟩, fun e n1 => ⟨(by show 1 ≤ sizeLine; decide), fun m n2 => ⟨(by show 0 ≤ sizeLine; decide), fun q n3 => ⟨(by show 1 ≤ sizeLine; decide), fun t n4 => ⟨(by show 4 ≤ sizeLine; decide), fun p n5 => ?_⟩⟩⟩⟩⟩
  have s1 := same_new (o := xv e C none) n1
  have s2 := same_new (o := .lst [.ref e]) n2
  have s3 := same_new (o := .lst []) n3
  have s4 := same_new (o := .lst [.ref q]) n4
  have s5 := same_new (o := .lst [.str nm, .str base, .ref m, .ref t]) n5
  have r1 := s1 _ _ hr
  have r2 := s2 _ _ r1
  have r3 := s3 _ _ r2
  have r4 := s4 _ _ r3
  have r5 := s5 _ _ r4
  have ne : ∀ {a : Addr} {Hx : Hp}, Hx r = some (.lst rows) → Hx a = none → a ≠ r := fun {a Hx} h1 h2 e => by
    rw [e, h1] at h2
    cases h2
  refine ⟨r, rows, .ref p, rfl, rfl, r5, Nat.lt_of_le_of_lt hl (by decide), ?_⟩
  have bb : ∀ {H6 : Hp} {o : HO}, ButR r H6 (upd H6 r o) := fun {H6 o} a o n h => by
    rw [upd_ne n]
    exact h
  refine k _ _ ((ButR.of (s1.trans (s2.trans (s3.trans (s4.trans s5))))).trans bb) upd_same (Row.but r5 bb ?_)
  refine ⟨p, m, t, [e], [q], rfl, ne r4 n5, upd_same, ne r1 n2, s5 _ _ (s4 _ _ (s3 _ _ upd_same)), ne r3 n4, s5 _ _ upd_same, rfl, (by show 1 ≤ 2; decide), fun e' he => ?_, fun q' hq => ?_⟩
  · simp only [List.mem_cons, List.not_mem_nil, or_false] at he
    subst he
    exact ⟨[], .inl ⟨rfl, s5 _ _ (s4 _ _ (s3 _ _ (s2 _ _ upd_same)))⟩⟩
  · simp only [List.mem_cons, List.not_mem_nil, or_false] at hq
    subst hq
    exact ⟨ne r2 n3, [], s5 _ _ (s4 _ _ upd_same), (by show 0 ≤ 2; decide), rfl⟩
end
end K70
set_option maxRecDepth 100000
set_option maxHeartbeats 8000000
namespace K70
open PySem PySem.Spec PyProof.Rows L2
/-- the error classes with an __init__, their fields -/
def errTab : List (Str × List Str) := [("BadAmount", ["value"]), ("BadLink", ["what"]), ("BadFlow", ["what"]), ("BadAge", ["age"]), ("BadPart", ["at"]), ("TooMany", ["what", "count"]), ("DuplicateName", ["name"]), ("Idle", ["link"]), ("Overpromised", ["link", "over"]), ("Small", ["flow", "link"]), ("BadText", ["line", "word"]), ("BadManner", ["flow"]), ("BadCapacity", ["link"]), ("BadSharing", ["name"]), ("BadBand", ["link"]), ("Future", ["tick"]), ("Short", ["amount"]), ("BadValue", ["channel"]), ("BadState", ["what", "at"]), ("BadCount", ["value"]), ("BadDeed", ["at"]), ("UnknownName", ["name"]), ("UnknownChannel", ["channel"]), ("UnknownHop", ["hop"]), ("NoSuchLetter", ["number"]), ("NoSuchTick", ["tick"]), ("Started", ["tick"]), ("NotStrange", ["name"]), ("NotShaky", ["link"]), ("Unseen", ["flow"])]
/-- NotPlain has none -/
def NPlain (K : PySem.W.Frag) (mg : Str → Option Value) : Prop := ExcBaseFacts "ValueError" "ValueError.__new__" "ValueError.__init__" He.veBase ∧ PySem.W.excIn K (He.ga K "NotPlain") He.veBase "ValueError.__new__" = true ∧
  mg "NotPlain" = some (.ref (He.ga K "NotPlain")) ∧ PySem.W.keepIn K (.ref (He.ga K "NotPlain")) = true
def spMade (L : List (Str × Str × Addr)) : Sp := fun vs H Q _ => ∃ x y, vs = [x, y] ∧ ∀ H' r rows, Same H H' → H r = none → H' r = some (.lst rows) → RowsOk x y r H' L rows → Q (.ref r) H'
section
variable {P : Program} {w : World} {K : PySem.W.Frag} {mg : Str → Option Value} {base : Heap}
abbrev sFirstMade : Stmt := topS 50
theorem scFirstMade : FnScope ["_law_x", "_law_y", "_law_rows", "_law_one", "_law_two"] ["_law_x", "_law_y"] (defScope sFirstMade) := ⟨rfl, rfl, rfl, by decide +kernel, rfl, by decide +kernel, by decide +kernel⟩
def lFirstMade (K : PySem.W.Frag) : List (Str × Str × Addr) := [("BadAmount", "BandError", He.ga K "BadAmount"), ("BadLink", "BandError", He.ga K "BadLink"), ("BadFlow", "BandError", He.ga K "BadFlow"), ("BadAge", "BandError", He.ga K "BadAge"), ("BadPart", "BandError", He.ga K "BadPart"), ("TooMany", "BandError", He.ga K "TooMany"), ("DuplicateName", "BandError", He.ga K "DuplicateName"), ("Idle", "BandError", He.ga K "Idle"), ("Overpromised", "BandError", He.ga K "Overpromised"), ("Small", "BandError", He.ga K "Small"), ("BadText", "BandError", He.ga K "BadText")]
theorem ok_FirstMade (D : DefT K mg "_law_first_made" sFirstMade) (hE : ∀ q ∈ errTab, EC P w K mg base q.1 (He.ga K q.1) q.2) : Call1 P w K mg base "_law_first_made" 3 ["_law_x", "_law_y"] (spMade (lFirstMade K)) := by
  have c_BadAmount := hE ("BadAmount", ["value"]) (by decide +kernel)
  have c_BadLink := hE ("BadLink", ["what"]) (by decide +kernel)
  have c_BadFlow := hE ("BadFlow", ["what"]) (by decide +kernel)
  have c_BadAge := hE ("BadAge", ["age"]) (by decide +kernel)
  have c_BadPart := hE ("BadPart", ["at"]) (by decide +kernel)
  have c_TooMany := hE ("TooMany", ["what", "count"]) (by decide +kernel)
  have c_DuplicateName := hE ("DuplicateName", ["name"]) (by decide +kernel)
  have c_Idle := hE ("Idle", ["link"]) (by decide +kernel)
  have c_Overpromised := hE ("Overpromised", ["link", "over"]) (by decide +kernel)
  have c_Small := hE ("Small", ["flow", "link"]) (by decide +kernel)
  have c_BadText := hE ("BadText", ["line", "word"]) (by decide +kernel)
  refine D.call scFirstMade (fun vs H Q E h => ?_) (fun _ _ _ _ _ _ us hl => match us, hl with | [_, _], _ => rfl) (fun f cdv A outer s H vs Q E hr h => ?_)
  · obtain ⟨x, y, rfl, _⟩ := h
    rfl
  · refine ⟨_, (pss_cons (ps_set (i := 2) scFirstMade.nd rfl (.inl rfl) (pe_lst pa_nil))
 (pss_cons (ps_set (i := 3) scFirstMade.nd rfl (.inl rfl) (pe_err c_BadAmount hr (by omega) (by rfl) (pa_cons (pv 0) pa_nil)))
 (pss_cons (ps_set (i := 4) scFirstMade.nd rfl (.inl rfl) (pe_errK c_BadAmount hr (by omega) (by rfl) (pk_cons (pv 0) pk_nil) rfl))
 (pss_cons (ps_expr (pe_bm PySem.F.plainAttrs_list PySem.F.slot_list_append PySem.F.type_list_append mt_append (pv 2) (pa_cons (pe_lst (pa_cons pe_str (pa_cons pe_str (pa_cons (pe_lst (pa_cons (pv 3) (pa_cons (pv 4) pa_nil))) (pa_cons (pe_lst (pa_cons (pe_lst (pa_cons (pe_xfv (pv 3)) pa_nil)) (pa_cons (pe_lst (pa_cons (pe_xfv (pv 4)) pa_nil)) pa_nil))) pa_nil))))) pa_nil)))
 (pss_cons (ps_set (i := 3) scFirstMade.nd rfl (.inl rfl) (pe_err c_BadLink hr (by omega) (by rfl) (pa_cons (pv 0) pa_nil)))
 (pss_cons (ps_set (i := 4) scFirstMade.nd rfl (.inl rfl) (pe_errK c_BadLink hr (by omega) (by rfl) (pk_cons (pv 0) pk_nil) rfl))
 (pss_cons (ps_expr (pe_bm PySem.F.plainAttrs_list PySem.F.slot_list_append PySem.F.type_list_append mt_append (pv 2) (pa_cons (pe_lst (pa_cons pe_str (pa_cons pe_str (pa_cons (pe_lst (pa_cons (pv 3) (pa_cons (pv 4) pa_nil))) (pa_cons (pe_lst (pa_cons (pe_lst (pa_cons (pe_xfv (pv 3)) pa_nil)) (pa_cons (pe_lst (pa_cons (pe_xfv (pv 4)) pa_nil)) pa_nil))) pa_nil))))) pa_nil)))
 (pss_cons (ps_set (i := 3) scFirstMade.nd rfl (.inl rfl) (pe_err c_BadFlow hr (by omega) (by rfl) (pa_cons (pv 0) pa_nil)))
 (pss_cons (ps_set (i := 4) scFirstMade.nd rfl (.inl rfl) (pe_errK c_BadFlow hr (by omega) (by rfl) (pk_cons (pv 0) pk_nil) rfl))
 (pss_cons (ps_expr (pe_bm PySem.F.plainAttrs_list PySem.F.slot_list_append PySem.F.type_list_append mt_append (pv 2) (pa_cons (pe_lst (pa_cons pe_str (pa_cons pe_str (pa_cons (pe_lst (pa_cons (pv 3) (pa_cons (pv 4) pa_nil))) (pa_cons (pe_lst (pa_cons (pe_lst (pa_cons (pe_xfv (pv 3)) pa_nil)) (pa_cons (pe_lst (pa_cons (pe_xfv (pv 4)) pa_nil)) pa_nil))) pa_nil))))) pa_nil)))
 (pss_cons (ps_set (i := 3) scFirstMade.nd rfl (.inl rfl) (pe_err c_BadAge hr (by omega) (by rfl) (pa_cons (pv 0) pa_nil)))
 (pss_cons (ps_set (i := 4) scFirstMade.nd rfl (.inl rfl) (pe_errK c_BadAge hr (by omega) (by rfl) (pk_cons (pv 0) pk_nil) rfl))
 (pss_cons (ps_expr (pe_bm PySem.F.plainAttrs_list PySem.F.slot_list_append PySem.F.type_list_append mt_append (pv 2) (pa_cons (pe_lst (pa_cons pe_str (pa_cons pe_str (pa_cons (pe_lst (pa_cons (pv 3) (pa_cons (pv 4) pa_nil))) (pa_cons (pe_lst (pa_cons (pe_lst (pa_cons (pe_xfv (pv 3)) pa_nil)) (pa_cons (pe_lst (pa_cons (pe_xfv (pv 4)) pa_nil)) pa_nil))) pa_nil))))) pa_nil)))
 (pss_cons (ps_set (i := 3) scFirstMade.nd rfl (.inl rfl) (pe_err c_BadPart hr (by omega) (by rfl) (pa_cons (pv 0) pa_nil)))
 (pss_cons (ps_set (i := 4) scFirstMade.nd rfl (.inl rfl) (pe_errK c_BadPart hr (by omega) (by rfl) (pk_cons (pv 0) pk_nil) rfl))
 (pss_cons (ps_expr (pe_bm PySem.F.plainAttrs_list PySem.F.slot_list_append PySem.F.type_list_append mt_append (pv 2) (pa_cons (pe_lst (pa_cons pe_str (pa_cons pe_str (pa_cons (pe_lst (pa_cons (pv 3) (pa_cons (pv 4) pa_nil))) (pa_cons (pe_lst (pa_cons (pe_lst (pa_cons (pe_xfv (pv 3)) pa_nil)) (pa_cons (pe_lst (pa_cons (pe_xfv (pv 4)) pa_nil)) pa_nil))) pa_nil))))) pa_nil)))
 (pss_cons (ps_set (i := 3) scFirstMade.nd rfl (.inl rfl) (pe_err c_TooMany hr (by omega) (by rfl) (pa_cons (pv 0) (pa_cons (pv 1) pa_nil))))
 (pss_cons (ps_set (i := 4) scFirstMade.nd rfl (.inl rfl) (pe_errK c_TooMany hr (by omega) (by rfl) (pk_cons (pv 1) (pk_cons (pv 0) pk_nil)) rfl))
 (pss_cons (ps_expr (pe_bm PySem.F.plainAttrs_list PySem.F.slot_list_append PySem.F.type_list_append mt_append (pv 2) (pa_cons (pe_lst (pa_cons pe_str (pa_cons pe_str (pa_cons (pe_lst (pa_cons (pv 3) (pa_cons (pv 4) pa_nil))) (pa_cons (pe_lst (pa_cons (pe_lst (pa_cons (pe_xfv (pv 3)) (pa_cons (pe_xfv (pv 3)) pa_nil))) (pa_cons (pe_lst (pa_cons (pe_xfv (pv 4)) (pa_cons (pe_xfv (pv 4)) pa_nil))) pa_nil))) pa_nil))))) pa_nil)))
 (pss_cons (ps_set (i := 3) scFirstMade.nd rfl (.inl rfl) (pe_err c_DuplicateName hr (by omega) (by rfl) (pa_cons (pv 0) pa_nil)))
 (pss_cons (ps_set (i := 4) scFirstMade.nd rfl (.inl rfl) (pe_errK c_DuplicateName hr (by omega) (by rfl) (pk_cons (pv 0) pk_nil) rfl))
 (pss_cons (ps_expr (pe_bm PySem.F.plainAttrs_list PySem.F.slot_list_append PySem.F.type_list_append mt_append (pv 2) (pa_cons (pe_lst (pa_cons pe_str (pa_cons pe_str (pa_cons (pe_lst (pa_cons (pv 3) (pa_cons (pv 4) pa_nil))) (pa_cons (pe_lst (pa_cons (pe_lst (pa_cons (pe_xfv (pv 3)) pa_nil)) (pa_cons (pe_lst (pa_cons (pe_xfv (pv 4)) pa_nil)) pa_nil))) pa_nil))))) pa_nil)))
 (pss_cons (ps_set (i := 3) scFirstMade.nd rfl (.inl rfl) (pe_err c_Idle hr (by omega) (by rfl) (pa_cons (pv 0) pa_nil)))
 (pss_cons (ps_set (i := 4) scFirstMade.nd rfl (.inl rfl) (pe_errK c_Idle hr (by omega) (by rfl) (pk_cons (pv 0) pk_nil) rfl))
 (pss_cons (ps_expr (pe_bm PySem.F.plainAttrs_list PySem.F.slot_list_append PySem.F.type_list_append mt_append (pv 2) (pa_cons (pe_lst (pa_cons pe_str (pa_cons pe_str (pa_cons (pe_lst (pa_cons (pv 3) (pa_cons (pv 4) pa_nil))) (pa_cons (pe_lst (pa_cons (pe_lst (pa_cons (pe_xfv (pv 3)) pa_nil)) (pa_cons (pe_lst (pa_cons (pe_xfv (pv 4)) pa_nil)) pa_nil))) pa_nil))))) pa_nil)))
 (pss_cons (ps_set (i := 3) scFirstMade.nd rfl (.inl rfl) (pe_err c_Overpromised hr (by omega) (by rfl) (pa_cons (pv 0) (pa_cons (pv 1) pa_nil))))
 (pss_cons (ps_set (i := 4) scFirstMade.nd rfl (.inl rfl) (pe_errK c_Overpromised hr (by omega) (by rfl) (pk_cons (pv 1) (pk_cons (pv 0) pk_nil)) rfl))
 (pss_cons (ps_expr (pe_bm PySem.F.plainAttrs_list PySem.F.slot_list_append PySem.F.type_list_append mt_append (pv 2) (pa_cons (pe_lst (pa_cons pe_str (pa_cons pe_str (pa_cons (pe_lst (pa_cons (pv 3) (pa_cons (pv 4) pa_nil))) (pa_cons (pe_lst (pa_cons (pe_lst (pa_cons (pe_xfv (pv 3)) (pa_cons (pe_xfv (pv 3)) pa_nil))) (pa_cons (pe_lst (pa_cons (pe_xfv (pv 4)) (pa_cons (pe_xfv (pv 4)) pa_nil))) pa_nil))) pa_nil))))) pa_nil)))
 (pss_cons (ps_set (i := 3) scFirstMade.nd rfl (.inl rfl) (pe_err c_Small hr (by omega) (by rfl) (pa_cons (pv 0) (pa_cons (pv 1) pa_nil))))
 (pss_cons (ps_set (i := 4) scFirstMade.nd rfl (.inl rfl) (pe_errK c_Small hr (by omega) (by rfl) (pk_cons (pv 1) (pk_cons (pv 0) pk_nil)) rfl))
 (pss_cons (ps_expr (pe_bm PySem.F.plainAttrs_list PySem.F.slot_list_append PySem.F.type_list_append mt_append (pv 2) (pa_cons (pe_lst (pa_cons pe_str (pa_cons pe_str (pa_cons (pe_lst (pa_cons (pv 3) (pa_cons (pv 4) pa_nil))) (pa_cons (pe_lst (pa_cons (pe_lst (pa_cons (pe_xfv (pv 3)) (pa_cons (pe_xfv (pv 3)) pa_nil))) (pa_cons (pe_lst (pa_cons (pe_xfv (pv 4)) (pa_cons (pe_xfv (pv 4)) pa_nil))) pa_nil))) pa_nil))))) pa_nil)))
 (pss_cons (ps_set (i := 3) scFirstMade.nd rfl (.inl rfl) (pe_err c_BadText hr (by omega) (by rfl) (pa_cons (pv 0) (pa_cons (pv 1) pa_nil))))
 (pss_cons (ps_set (i := 4) scFirstMade.nd rfl (.inl rfl) (pe_errK c_BadText hr (by omega) (by rfl) (pk_cons (pv 1) (pk_cons (pv 0) pk_nil)) rfl))
 (pss_cons (ps_expr (pe_bm PySem.F.plainAttrs_list PySem.F.slot_list_append PySem.F.type_list_append mt_append (pv 2) (pa_cons (pe_lst (pa_cons pe_str (pa_cons pe_str (pa_cons (pe_lst (pa_cons (pv 3) (pa_cons (pv 4) pa_nil))) (pa_cons (pe_lst (pa_cons (pe_lst (pa_cons (pe_xfv (pv 3)) (pa_cons (pe_xfv (pv 3)) pa_nil))) (pa_cons (pe_lst (pa_cons (pe_xfv (pv 4)) (pa_cons (pe_xfv (pv 4)) pa_nil))) pa_nil))) pa_nil))))) pa_nil)))
 (pss_one (ps_ret (pv 2))))))))))))))))))))))))))))))))))))), ?_⟩
    obtain ⟨x, y, rfl, q⟩ := h
    refine ⟨Nat.zero_le _, fun r nr => ?_⟩
    have h0 : (upd H r (.lst [])) r = some (.lst []) := upd_same
    have b0 : ButR r H (upd H r (.lst [])) := fun a o n h => by rw [upd_ne n]; exact h
    have R0 : RowsOk x y r (upd H r (.lst [])) [] [] := True.intro
    generalize upd H r (.lst []) = H0 at h0 b0 R0 ⊢
    refine grp1 c_BadAmount.x c_BadAmount.no h0 (by show 0 ≤ 100; decide) fun H1 v1 e1 e1b b1 h1 S1 => ?_
    have R1 := RowsOk.snoc (RowsOk.but h0 b1 R0) S1
    replace b1 := b0.trans b1
    refine grp1 c_BadLink.x c_BadLink.no h1 (by show 1 ≤ 100; decide) fun H2 v2 e2 e2b b2 h2 S2 => ?_
    have R2 := RowsOk.snoc (RowsOk.but h1 b2 R1) S2
    replace b2 := b1.trans b2
    refine grp1 c_BadFlow.x c_BadFlow.no h2 (by show 2 ≤ 100; decide) fun H3 v3 e3 e3b b3 h3 S3 => ?_
    have R3 := RowsOk.snoc (RowsOk.but h2 b3 R2) S3
    replace b3 := b2.trans b3
    refine grp1 c_BadAge.x c_BadAge.no h3 (by show 3 ≤ 100; decide) fun H4 v4 e4 e4b b4 h4 S4 => ?_
    have R4 := RowsOk.snoc (RowsOk.but h3 b4 R3) S4
    replace b4 := b3.trans b4
    refine grp1 c_BadPart.x c_BadPart.no h4 (by show 4 ≤ 100; decide) fun H5 v5 e5 e5b b5 h5 S5 => ?_
    have R5 := RowsOk.snoc (RowsOk.but h4 b5 R4) S5
    replace b5 := b4.trans b5
    refine grp2 c_TooMany.x c_TooMany.no h5 (by show 5 ≤ 100; decide) fun H6 v6 e6 e6b b6 h6 S6 => ?_
    have R6 := RowsOk.snoc (RowsOk.but h5 b6 R5) S6
    replace b6 := b5.trans b6
    refine grp1 c_DuplicateName.x c_DuplicateName.no h6 (by show 6 ≤ 100; decide) fun H7 v7 e7 e7b b7 h7 S7 => ?_
    have R7 := RowsOk.snoc (RowsOk.but h6 b7 R6) S7
    replace b7 := b6.trans b7
    refine grp1 c_Idle.x c_Idle.no h7 (by show 7 ≤ 100; decide) fun H8 v8 e8 e8b b8 h8 S8 => ?_
    have R8 := RowsOk.snoc (RowsOk.but h7 b8 R7) S8
    replace b8 := b7.trans b8
    refine grp2 c_Overpromised.x c_Overpromised.no h8 (by show 8 ≤ 100; decide) fun H9 v9 e9 e9b b9 h9 S9 => ?_
    have R9 := RowsOk.snoc (RowsOk.but h8 b9 R8) S9
    replace b9 := b8.trans b9
    refine grp2 c_Small.x c_Small.no h9 (by show 9 ≤ 100; decide) fun H10 v10 e10 e10b b10 h10 S10 => ?_
    have R10 := RowsOk.snoc (RowsOk.but h9 b10 R9) S10
    replace b10 := b9.trans b10
    refine grp2 c_BadText.x c_BadText.no h10 (by show 10 ≤ 100; decide) fun H11 v11 e11 e11b b11 h11 S11 => ?_
    have R11 := RowsOk.snoc (RowsOk.but h10 b11 R10) S11
    replace b11 := b10.trans b11
    exact ⟨.ref r, rfl, q _ r _ (fun a o h => b11 a o (ne_of_none h nr) h) nr h11 R11⟩
abbrev sMiddleMade : Stmt := topS 51
theorem scMiddleMade : FnScope ["_law_x", "_law_y", "_law_rows", "_law_one", "_law_two"] ["_law_x", "_law_y"] (defScope sMiddleMade) := ⟨rfl, rfl, rfl, by decide +kernel, rfl, by decide +kernel, by decide +kernel⟩
def lMiddleMade (K : PySem.W.Frag) : List (Str × Str × Addr) := [("BadManner", "BandError", He.ga K "BadManner"), ("BadCapacity", "BandError", He.ga K "BadCapacity"), ("BadSharing", "BandError", He.ga K "BadSharing"), ("BadBand", "BandError", He.ga K "BadBand"), ("NotPlain", "BandError", He.ga K "NotPlain"), ("Future", "BandError", He.ga K "Future"), ("Short", "BandError", He.ga K "Short"), ("BadValue", "BandError", He.ga K "BadValue"), ("BadState", "BandError", He.ga K "BadState"), ("BadCount", "BandError", He.ga K "BadCount"), ("BadDeed", "BandError", He.ga K "BadDeed")]
theorem ok_MiddleMade (D : DefT K mg "_law_middle_made" sMiddleMade) (hE : ∀ q ∈ errTab, EC P w K mg base q.1 (He.ga K q.1) q.2) (x_NotPlain : NPlain K mg) : Call1 P w K mg base "_law_middle_made" 3 ["_law_x", "_law_y"] (spMade (lMiddleMade K)) := by
  have c_BadManner := hE ("BadManner", ["flow"]) (by decide +kernel)
  have c_BadCapacity := hE ("BadCapacity", ["link"]) (by decide +kernel)
  have c_BadSharing := hE ("BadSharing", ["name"]) (by decide +kernel)
  have c_BadBand := hE ("BadBand", ["link"]) (by decide +kernel)
  have c_Future := hE ("Future", ["tick"]) (by decide +kernel)
  have c_Short := hE ("Short", ["amount"]) (by decide +kernel)
  have c_BadValue := hE ("BadValue", ["channel"]) (by decide +kernel)
  have c_BadState := hE ("BadState", ["what", "at"]) (by decide +kernel)
  have c_BadCount := hE ("BadCount", ["value"]) (by decide +kernel)
  have c_BadDeed := hE ("BadDeed", ["at"]) (by decide +kernel)
  refine D.call scMiddleMade (fun vs H Q E h => ?_) (fun _ _ _ _ _ _ us hl => match us, hl with | [_, _], _ => rfl) (fun f cdv A outer s H vs Q E hr h => ?_)
  · obtain ⟨x, y, rfl, _⟩ := h
    rfl
  · refine ⟨_, (pss_cons (ps_set (i := 2) scMiddleMade.nd rfl (.inl rfl) (pe_lst pa_nil))
 (pss_cons (ps_set (i := 3) scMiddleMade.nd rfl (.inl rfl) (pe_err c_BadManner hr (by omega) (by rfl) (pa_cons (pv 0) pa_nil)))
 (pss_cons (ps_set (i := 4) scMiddleMade.nd rfl (.inl rfl) (pe_errK c_BadManner hr (by omega) (by rfl) (pk_cons (pv 0) pk_nil) rfl))
 (pss_cons (ps_expr (pe_bm PySem.F.plainAttrs_list PySem.F.slot_list_append PySem.F.type_list_append mt_append (pv 2) (pa_cons (pe_lst (pa_cons pe_str (pa_cons pe_str (pa_cons (pe_lst (pa_cons (pv 3) (pa_cons (pv 4) pa_nil))) (pa_cons (pe_lst (pa_cons (pe_lst (pa_cons (pe_xfv (pv 3)) pa_nil)) (pa_cons (pe_lst (pa_cons (pe_xfv (pv 4)) pa_nil)) pa_nil))) pa_nil))))) pa_nil)))
 (pss_cons (ps_set (i := 3) scMiddleMade.nd rfl (.inl rfl) (pe_err c_BadCapacity hr (by omega) (by rfl) (pa_cons (pv 0) pa_nil)))
 (pss_cons (ps_set (i := 4) scMiddleMade.nd rfl (.inl rfl) (pe_errK c_BadCapacity hr (by omega) (by rfl) (pk_cons (pv 0) pk_nil) rfl))
 (pss_cons (ps_expr (pe_bm PySem.F.plainAttrs_list PySem.F.slot_list_append PySem.F.type_list_append mt_append (pv 2) (pa_cons (pe_lst (pa_cons pe_str (pa_cons pe_str (pa_cons (pe_lst (pa_cons (pv 3) (pa_cons (pv 4) pa_nil))) (pa_cons (pe_lst (pa_cons (pe_lst (pa_cons (pe_xfv (pv 3)) pa_nil)) (pa_cons (pe_lst (pa_cons (pe_xfv (pv 4)) pa_nil)) pa_nil))) pa_nil))))) pa_nil)))
 (pss_cons (ps_set (i := 3) scMiddleMade.nd rfl (.inl rfl) (pe_err c_BadSharing hr (by omega) (by rfl) (pa_cons (pv 0) pa_nil)))
 (pss_cons (ps_set (i := 4) scMiddleMade.nd rfl (.inl rfl) (pe_errK c_BadSharing hr (by omega) (by rfl) (pk_cons (pv 0) pk_nil) rfl))
 (pss_cons (ps_expr (pe_bm PySem.F.plainAttrs_list PySem.F.slot_list_append PySem.F.type_list_append mt_append (pv 2) (pa_cons (pe_lst (pa_cons pe_str (pa_cons pe_str (pa_cons (pe_lst (pa_cons (pv 3) (pa_cons (pv 4) pa_nil))) (pa_cons (pe_lst (pa_cons (pe_lst (pa_cons (pe_xfv (pv 3)) pa_nil)) (pa_cons (pe_lst (pa_cons (pe_xfv (pv 4)) pa_nil)) pa_nil))) pa_nil))))) pa_nil)))
 (pss_cons (ps_set (i := 3) scMiddleMade.nd rfl (.inl rfl) (pe_err c_BadBand hr (by omega) (by rfl) (pa_cons (pv 0) pa_nil)))
 (pss_cons (ps_set (i := 4) scMiddleMade.nd rfl (.inl rfl) (pe_errK c_BadBand hr (by omega) (by rfl) (pk_cons (pv 0) pk_nil) rfl))
 (pss_cons (ps_expr (pe_bm PySem.F.plainAttrs_list PySem.F.slot_list_append PySem.F.type_list_append mt_append (pv 2) (pa_cons (pe_lst (pa_cons pe_str (pa_cons pe_str (pa_cons (pe_lst (pa_cons (pv 3) (pa_cons (pv 4) pa_nil))) (pa_cons (pe_lst (pa_cons (pe_lst (pa_cons (pe_xfv (pv 3)) pa_nil)) (pa_cons (pe_lst (pa_cons (pe_xfv (pv 4)) pa_nil)) pa_nil))) pa_nil))))) pa_nil)))
 (pss_cons (ps_expr (pe_bm PySem.F.plainAttrs_list PySem.F.slot_list_append PySem.F.type_list_append mt_append (pv 2) (pa_cons (pe_lst (pa_cons pe_str (pa_cons pe_str (pa_cons (pe_lst (pa_cons (pe_x0 x_NotPlain.1 x_NotPlain.2.1 x_NotPlain.2.2.1 x_NotPlain.2.2.2 (by rfl)) pa_nil)) (pa_cons (pe_lst (pa_cons (pe_lst pa_nil) pa_nil)) pa_nil))))) pa_nil)))
 (pss_cons (ps_set (i := 3) scMiddleMade.nd rfl (.inl rfl) (pe_err c_Future hr (by omega) (by rfl) (pa_cons (pv 0) pa_nil)))
 (pss_cons (ps_set (i := 4) scMiddleMade.nd rfl (.inl rfl) (pe_errK c_Future hr (by omega) (by rfl) (pk_cons (pv 0) pk_nil) rfl))
 (pss_cons (ps_expr (pe_bm PySem.F.plainAttrs_list PySem.F.slot_list_append PySem.F.type_list_append mt_append (pv 2) (pa_cons (pe_lst (pa_cons pe_str (pa_cons pe_str (pa_cons (pe_lst (pa_cons (pv 3) (pa_cons (pv 4) pa_nil))) (pa_cons (pe_lst (pa_cons (pe_lst (pa_cons (pe_xfv (pv 3)) pa_nil)) (pa_cons (pe_lst (pa_cons (pe_xfv (pv 4)) pa_nil)) pa_nil))) pa_nil))))) pa_nil)))
 (pss_cons (ps_set (i := 3) scMiddleMade.nd rfl (.inl rfl) (pe_err c_Short hr (by omega) (by rfl) (pa_cons (pv 0) pa_nil)))
 (pss_cons (ps_set (i := 4) scMiddleMade.nd rfl (.inl rfl) (pe_errK c_Short hr (by omega) (by rfl) (pk_cons (pv 0) pk_nil) rfl))
 (pss_cons (ps_expr (pe_bm PySem.F.plainAttrs_list PySem.F.slot_list_append PySem.F.type_list_append mt_append (pv 2) (pa_cons (pe_lst (pa_cons pe_str (pa_cons pe_str (pa_cons (pe_lst (pa_cons (pv 3) (pa_cons (pv 4) pa_nil))) (pa_cons (pe_lst (pa_cons (pe_lst (pa_cons (pe_xfv (pv 3)) pa_nil)) (pa_cons (pe_lst (pa_cons (pe_xfv (pv 4)) pa_nil)) pa_nil))) pa_nil))))) pa_nil)))
 (pss_cons (ps_set (i := 3) scMiddleMade.nd rfl (.inl rfl) (pe_err c_BadValue hr (by omega) (by rfl) (pa_cons (pv 0) pa_nil)))
 (pss_cons (ps_set (i := 4) scMiddleMade.nd rfl (.inl rfl) (pe_errK c_BadValue hr (by omega) (by rfl) (pk_cons (pv 0) pk_nil) rfl))
 (pss_cons (ps_expr (pe_bm PySem.F.plainAttrs_list PySem.F.slot_list_append PySem.F.type_list_append mt_append (pv 2) (pa_cons (pe_lst (pa_cons pe_str (pa_cons pe_str (pa_cons (pe_lst (pa_cons (pv 3) (pa_cons (pv 4) pa_nil))) (pa_cons (pe_lst (pa_cons (pe_lst (pa_cons (pe_xfv (pv 3)) pa_nil)) (pa_cons (pe_lst (pa_cons (pe_xfv (pv 4)) pa_nil)) pa_nil))) pa_nil))))) pa_nil)))
 (pss_cons (ps_set (i := 3) scMiddleMade.nd rfl (.inl rfl) (pe_err c_BadState hr (by omega) (by rfl) (pa_cons (pv 0) (pa_cons (pv 1) pa_nil))))
 (pss_cons (ps_set (i := 4) scMiddleMade.nd rfl (.inl rfl) (pe_errK c_BadState hr (by omega) (by rfl) (pk_cons (pv 1) (pk_cons (pv 0) pk_nil)) rfl))
 (pss_cons (ps_expr (pe_bm PySem.F.plainAttrs_list PySem.F.slot_list_append PySem.F.type_list_append mt_append (pv 2) (pa_cons (pe_lst (pa_cons pe_str (pa_cons pe_str (pa_cons (pe_lst (pa_cons (pv 3) (pa_cons (pv 4) pa_nil))) (pa_cons (pe_lst (pa_cons (pe_lst (pa_cons (pe_xfv (pv 3)) (pa_cons (pe_xfv (pv 3)) pa_nil))) (pa_cons (pe_lst (pa_cons (pe_xfv (pv 4)) (pa_cons (pe_xfv (pv 4)) pa_nil))) pa_nil))) pa_nil))))) pa_nil)))
 (pss_cons (ps_set (i := 3) scMiddleMade.nd rfl (.inl rfl) (pe_err c_BadCount hr (by omega) (by rfl) (pa_cons (pv 0) pa_nil)))
 (pss_cons (ps_set (i := 4) scMiddleMade.nd rfl (.inl rfl) (pe_errK c_BadCount hr (by omega) (by rfl) (pk_cons (pv 0) pk_nil) rfl))
 (pss_cons (ps_expr (pe_bm PySem.F.plainAttrs_list PySem.F.slot_list_append PySem.F.type_list_append mt_append (pv 2) (pa_cons (pe_lst (pa_cons pe_str (pa_cons pe_str (pa_cons (pe_lst (pa_cons (pv 3) (pa_cons (pv 4) pa_nil))) (pa_cons (pe_lst (pa_cons (pe_lst (pa_cons (pe_xfv (pv 3)) pa_nil)) (pa_cons (pe_lst (pa_cons (pe_xfv (pv 4)) pa_nil)) pa_nil))) pa_nil))))) pa_nil)))
 (pss_cons (ps_set (i := 3) scMiddleMade.nd rfl (.inl rfl) (pe_err c_BadDeed hr (by omega) (by rfl) (pa_cons (pv 0) pa_nil)))
 (pss_cons (ps_set (i := 4) scMiddleMade.nd rfl (.inl rfl) (pe_errK c_BadDeed hr (by omega) (by rfl) (pk_cons (pv 0) pk_nil) rfl))
 (pss_cons (ps_expr (pe_bm PySem.F.plainAttrs_list PySem.F.slot_list_append PySem.F.type_list_append mt_append (pv 2) (pa_cons (pe_lst (pa_cons pe_str (pa_cons pe_str (pa_cons (pe_lst (pa_cons (pv 3) (pa_cons (pv 4) pa_nil))) (pa_cons (pe_lst (pa_cons (pe_lst (pa_cons (pe_xfv (pv 3)) pa_nil)) (pa_cons (pe_lst (pa_cons (pe_xfv (pv 4)) pa_nil)) pa_nil))) pa_nil))))) pa_nil)))
 (pss_one (ps_ret (pv 2))))))))))))))))))))))))))))))))))), ?_⟩
    obtain ⟨x, y, rfl, q⟩ := h
    refine ⟨Nat.zero_le _, fun r nr => ?_⟩
    have h0 : (upd H r (.lst [])) r = some (.lst []) := upd_same
    have b0 : ButR r H (upd H r (.lst [])) := fun a o n h => by rw [upd_ne n]; exact h
    have R0 : RowsOk x y r (upd H r (.lst [])) [] [] := True.intro
    generalize upd H r (.lst []) = H0 at h0 b0 R0 ⊢
    refine grp1 c_BadManner.x c_BadManner.no h0 (by show 0 ≤ 100; decide) fun H1 v1 e1 e1b b1 h1 S1 => ?_
    have R1 := RowsOk.snoc (RowsOk.but h0 b1 R0) S1
    replace b1 := b0.trans b1
    refine grp1 c_BadCapacity.x c_BadCapacity.no h1 (by show 1 ≤ 100; decide) fun H2 v2 e2 e2b b2 h2 S2 => ?_
    have R2 := RowsOk.snoc (RowsOk.but h1 b2 R1) S2
    replace b2 := b1.trans b2
    refine grp1 c_BadSharing.x c_BadSharing.no h2 (by show 2 ≤ 100; decide) fun H3 v3 e3 e3b b3 h3 S3 => ?_
    have R3 := RowsOk.snoc (RowsOk.but h2 b3 R2) S3
    replace b3 := b2.trans b3
    refine grp1 c_BadBand.x c_BadBand.no h3 (by show 3 ≤ 100; decide) fun H4 v4 e4 e4b b4 h4 S4 => ?_
    have R4 := RowsOk.snoc (RowsOk.but h3 b4 R3) S4
    replace b4 := b3.trans b4
    refine grp0 (x := x) (y := y) rfl h4 (by show 4 ≤ 100; decide) fun H5 v5 b5 h5 S5 => ?_
    have R5 := RowsOk.snoc (RowsOk.but h4 b5 R4) S5
    replace b5 := b4.trans b5
    refine grp1 c_Future.x c_Future.no h5 (by show 5 ≤ 100; decide) fun H6 v6 e6 e6b b6 h6 S6 => ?_
    have R6 := RowsOk.snoc (RowsOk.but h5 b6 R5) S6
    replace b6 := b5.trans b6
    refine grp1 c_Short.x c_Short.no h6 (by show 6 ≤ 100; decide) fun H7 v7 e7 e7b b7 h7 S7 => ?_
    have R7 := RowsOk.snoc (RowsOk.but h6 b7 R6) S7
    replace b7 := b6.trans b7
    refine grp1 c_BadValue.x c_BadValue.no h7 (by show 7 ≤ 100; decide) fun H8 v8 e8 e8b b8 h8 S8 => ?_
    have R8 := RowsOk.snoc (RowsOk.but h7 b8 R7) S8
    replace b8 := b7.trans b8
    refine grp2 c_BadState.x c_BadState.no h8 (by show 8 ≤ 100; decide) fun H9 v9 e9 e9b b9 h9 S9 => ?_
    have R9 := RowsOk.snoc (RowsOk.but h8 b9 R8) S9
    replace b9 := b8.trans b9
    refine grp1 c_BadCount.x c_BadCount.no h9 (by show 9 ≤ 100; decide) fun H10 v10 e10 e10b b10 h10 S10 => ?_
    have R10 := RowsOk.snoc (RowsOk.but h9 b10 R9) S10
    replace b10 := b9.trans b10
    refine grp1 c_BadDeed.x c_BadDeed.no h10 (by show 10 ≤ 100; decide) fun H11 v11 e11 e11b b11 h11 S11 => ?_
    have R11 := RowsOk.snoc (RowsOk.but h10 b11 R10) S11
    replace b11 := b10.trans b11
    exact ⟨.ref r, rfl, q _ r _ (fun a o h => b11 a o (ne_of_none h nr) h) nr h11 R11⟩
abbrev sLastMade : Stmt := topS 52
theorem scLastMade : FnScope ["_law_x", "_law_y", "_law_rows", "_law_one", "_law_two"] ["_law_x", "_law_y"] (defScope sLastMade) := ⟨rfl, rfl, rfl, by decide +kernel, rfl, by decide +kernel, by decide +kernel⟩
def lLastMade (K : PySem.W.Frag) : List (Str × Str × Addr) := [("UnknownName", "Missing", He.ga K "UnknownName"), ("UnknownChannel", "Missing", He.ga K "UnknownChannel"), ("UnknownHop", "Missing", He.ga K "UnknownHop"), ("NoSuchLetter", "Missing", He.ga K "NoSuchLetter"), ("NoSuchTick", "Missing", He.ga K "NoSuchTick"), ("Started", "Refused", He.ga K "Started"), ("NotStrange", "Refused", He.ga K "NotStrange"), ("NotShaky", "Refused", He.ga K "NotShaky"), ("Unseen", "Refused", He.ga K "Unseen")]
theorem ok_LastMade (D : DefT K mg "_law_last_made" sLastMade) (hE : ∀ q ∈ errTab, EC P w K mg base q.1 (He.ga K q.1) q.2) : Call1 P w K mg base "_law_last_made" 3 ["_law_x", "_law_y"] (spMade (lLastMade K)) := by
  have c_UnknownName := hE ("UnknownName", ["name"]) (by decide +kernel)
  have c_UnknownChannel := hE ("UnknownChannel", ["channel"]) (by decide +kernel)
  have c_UnknownHop := hE ("UnknownHop", ["hop"]) (by decide +kernel)
  have c_NoSuchLetter := hE ("NoSuchLetter", ["number"]) (by decide +kernel)
  have c_NoSuchTick := hE ("NoSuchTick", ["tick"]) (by decide +kernel)
  have c_Started := hE ("Started", ["tick"]) (by decide +kernel)
  have c_NotStrange := hE ("NotStrange", ["name"]) (by decide +kernel)
  have c_NotShaky := hE ("NotShaky", ["link"]) (by decide +kernel)
  have c_Unseen := hE ("Unseen", ["flow"]) (by decide +kernel)
  refine D.call scLastMade (fun vs H Q E h => ?_) (fun _ _ _ _ _ _ us hl => match us, hl with | [_, _], _ => rfl) (fun f cdv A outer s H vs Q E hr h => ?_)
  · obtain ⟨x, y, rfl, _⟩ := h
    rfl
  · refine ⟨_, (pss_cons (ps_set (i := 2) scLastMade.nd rfl (.inl rfl) (pe_lst pa_nil))
 (pss_cons (ps_set (i := 3) scLastMade.nd rfl (.inl rfl) (pe_err c_UnknownName hr (by omega) (by rfl) (pa_cons (pv 0) pa_nil)))
 (pss_cons (ps_set (i := 4) scLastMade.nd rfl (.inl rfl) (pe_errK c_UnknownName hr (by omega) (by rfl) (pk_cons (pv 0) pk_nil) rfl))
 (pss_cons (ps_expr (pe_bm PySem.F.plainAttrs_list PySem.F.slot_list_append PySem.F.type_list_append mt_append (pv 2) (pa_cons (pe_lst (pa_cons pe_str (pa_cons pe_str (pa_cons (pe_lst (pa_cons (pv 3) (pa_cons (pv 4) pa_nil))) (pa_cons (pe_lst (pa_cons (pe_lst (pa_cons (pe_xfv (pv 3)) pa_nil)) (pa_cons (pe_lst (pa_cons (pe_xfv (pv 4)) pa_nil)) pa_nil))) pa_nil))))) pa_nil)))
 (pss_cons (ps_set (i := 3) scLastMade.nd rfl (.inl rfl) (pe_err c_UnknownChannel hr (by omega) (by rfl) (pa_cons (pv 0) pa_nil)))
 (pss_cons (ps_set (i := 4) scLastMade.nd rfl (.inl rfl) (pe_errK c_UnknownChannel hr (by omega) (by rfl) (pk_cons (pv 0) pk_nil) rfl))
 (pss_cons (ps_expr (pe_bm PySem.F.plainAttrs_list PySem.F.slot_list_append PySem.F.type_list_append mt_append (pv 2) (pa_cons (pe_lst (pa_cons pe_str (pa_cons pe_str (pa_cons (pe_lst (pa_cons (pv 3) (pa_cons (pv 4) pa_nil))) (pa_cons (pe_lst (pa_cons (pe_lst (pa_cons (pe_xfv (pv 3)) pa_nil)) (pa_cons (pe_lst (pa_cons (pe_xfv (pv 4)) pa_nil)) pa_nil))) pa_nil))))) pa_nil)))
 (pss_cons (ps_set (i := 3) scLastMade.nd rfl (.inl rfl) (pe_err c_UnknownHop hr (by omega) (by rfl) (pa_cons (pv 0) pa_nil)))
 (pss_cons (ps_set (i := 4) scLastMade.nd rfl (.inl rfl) (pe_errK c_UnknownHop hr (by omega) (by rfl) (pk_cons (pv 0) pk_nil) rfl))
 (pss_cons (ps_expr (pe_bm PySem.F.plainAttrs_list PySem.F.slot_list_append PySem.F.type_list_append mt_append (pv 2) (pa_cons (pe_lst (pa_cons pe_str (pa_cons pe_str (pa_cons (pe_lst (pa_cons (pv 3) (pa_cons (pv 4) pa_nil))) (pa_cons (pe_lst (pa_cons (pe_lst (pa_cons (pe_xfv (pv 3)) pa_nil)) (pa_cons (pe_lst (pa_cons (pe_xfv (pv 4)) pa_nil)) pa_nil))) pa_nil))))) pa_nil)))
 (pss_cons (ps_set (i := 3) scLastMade.nd rfl (.inl rfl) (pe_err c_NoSuchLetter hr (by omega) (by rfl) (pa_cons (pv 0) pa_nil)))
 (pss_cons (ps_set (i := 4) scLastMade.nd rfl (.inl rfl) (pe_errK c_NoSuchLetter hr (by omega) (by rfl) (pk_cons (pv 0) pk_nil) rfl))
 (pss_cons (ps_expr (pe_bm PySem.F.plainAttrs_list PySem.F.slot_list_append PySem.F.type_list_append mt_append (pv 2) (pa_cons (pe_lst (pa_cons pe_str (pa_cons pe_str (pa_cons (pe_lst (pa_cons (pv 3) (pa_cons (pv 4) pa_nil))) (pa_cons (pe_lst (pa_cons (pe_lst (pa_cons (pe_xfv (pv 3)) pa_nil)) (pa_cons (pe_lst (pa_cons (pe_xfv (pv 4)) pa_nil)) pa_nil))) pa_nil))))) pa_nil)))
 (pss_cons (ps_set (i := 3) scLastMade.nd rfl (.inl rfl) (pe_err c_NoSuchTick hr (by omega) (by rfl) (pa_cons (pv 0) pa_nil)))
 (pss_cons (ps_set (i := 4) scLastMade.nd rfl (.inl rfl) (pe_errK c_NoSuchTick hr (by omega) (by rfl) (pk_cons (pv 0) pk_nil) rfl))
 (pss_cons (ps_expr (pe_bm PySem.F.plainAttrs_list PySem.F.slot_list_append PySem.F.type_list_append mt_append (pv 2) (pa_cons (pe_lst (pa_cons pe_str (pa_cons pe_str (pa_cons (pe_lst (pa_cons (pv 3) (pa_cons (pv 4) pa_nil))) (pa_cons (pe_lst (pa_cons (pe_lst (pa_cons (pe_xfv (pv 3)) pa_nil)) (pa_cons (pe_lst (pa_cons (pe_xfv (pv 4)) pa_nil)) pa_nil))) pa_nil))))) pa_nil)))
 (pss_cons (ps_set (i := 3) scLastMade.nd rfl (.inl rfl) (pe_err c_Started hr (by omega) (by rfl) (pa_cons (pv 0) pa_nil)))
 (pss_cons (ps_set (i := 4) scLastMade.nd rfl (.inl rfl) (pe_errK c_Started hr (by omega) (by rfl) (pk_cons (pv 0) pk_nil) rfl))
 (pss_cons (ps_expr (pe_bm PySem.F.plainAttrs_list PySem.F.slot_list_append PySem.F.type_list_append mt_append (pv 2) (pa_cons (pe_lst (pa_cons pe_str (pa_cons pe_str (pa_cons (pe_lst (pa_cons (pv 3) (pa_cons (pv 4) pa_nil))) (pa_cons (pe_lst (pa_cons (pe_lst (pa_cons (pe_xfv (pv 3)) pa_nil)) (pa_cons (pe_lst (pa_cons (pe_xfv (pv 4)) pa_nil)) pa_nil))) pa_nil))))) pa_nil)))
 (pss_cons (ps_set (i := 3) scLastMade.nd rfl (.inl rfl) (pe_err c_NotStrange hr (by omega) (by rfl) (pa_cons (pv 0) pa_nil)))
 (pss_cons (ps_set (i := 4) scLastMade.nd rfl (.inl rfl) (pe_errK c_NotStrange hr (by omega) (by rfl) (pk_cons (pv 0) pk_nil) rfl))
 (pss_cons (ps_expr (pe_bm PySem.F.plainAttrs_list PySem.F.slot_list_append PySem.F.type_list_append mt_append (pv 2) (pa_cons (pe_lst (pa_cons pe_str (pa_cons pe_str (pa_cons (pe_lst (pa_cons (pv 3) (pa_cons (pv 4) pa_nil))) (pa_cons (pe_lst (pa_cons (pe_lst (pa_cons (pe_xfv (pv 3)) pa_nil)) (pa_cons (pe_lst (pa_cons (pe_xfv (pv 4)) pa_nil)) pa_nil))) pa_nil))))) pa_nil)))
 (pss_cons (ps_set (i := 3) scLastMade.nd rfl (.inl rfl) (pe_err c_NotShaky hr (by omega) (by rfl) (pa_cons (pv 0) pa_nil)))
 (pss_cons (ps_set (i := 4) scLastMade.nd rfl (.inl rfl) (pe_errK c_NotShaky hr (by omega) (by rfl) (pk_cons (pv 0) pk_nil) rfl))
 (pss_cons (ps_expr (pe_bm PySem.F.plainAttrs_list PySem.F.slot_list_append PySem.F.type_list_append mt_append (pv 2) (pa_cons (pe_lst (pa_cons pe_str (pa_cons pe_str (pa_cons (pe_lst (pa_cons (pv 3) (pa_cons (pv 4) pa_nil))) (pa_cons (pe_lst (pa_cons (pe_lst (pa_cons (pe_xfv (pv 3)) pa_nil)) (pa_cons (pe_lst (pa_cons (pe_xfv (pv 4)) pa_nil)) pa_nil))) pa_nil))))) pa_nil)))
 (pss_cons (ps_set (i := 3) scLastMade.nd rfl (.inl rfl) (pe_err c_Unseen hr (by omega) (by rfl) (pa_cons (pv 0) pa_nil)))
 (pss_cons (ps_set (i := 4) scLastMade.nd rfl (.inl rfl) (pe_errK c_Unseen hr (by omega) (by rfl) (pk_cons (pv 0) pk_nil) rfl))
 (pss_cons (ps_expr (pe_bm PySem.F.plainAttrs_list PySem.F.slot_list_append PySem.F.type_list_append mt_append (pv 2) (pa_cons (pe_lst (pa_cons pe_str (pa_cons pe_str (pa_cons (pe_lst (pa_cons (pv 3) (pa_cons (pv 4) pa_nil))) (pa_cons (pe_lst (pa_cons (pe_lst (pa_cons (pe_xfv (pv 3)) pa_nil)) (pa_cons (pe_lst (pa_cons (pe_xfv (pv 4)) pa_nil)) pa_nil))) pa_nil))))) pa_nil)))
 (pss_one (ps_ret (pv 2))))))))))))))))))))))))))))))), ?_⟩
    obtain ⟨x, y, rfl, q⟩ := h
    refine ⟨Nat.zero_le _, fun r nr => ?_⟩
    have h0 : (upd H r (.lst [])) r = some (.lst []) := upd_same
    have b0 : ButR r H (upd H r (.lst [])) := fun a o n h => by rw [upd_ne n]; exact h
    have R0 : RowsOk x y r (upd H r (.lst [])) [] [] := True.intro
    generalize upd H r (.lst []) = H0 at h0 b0 R0 ⊢
    refine grp1 c_UnknownName.x c_UnknownName.no h0 (by show 0 ≤ 100; decide) fun H1 v1 e1 e1b b1 h1 S1 => ?_
    have R1 := RowsOk.snoc (RowsOk.but h0 b1 R0) S1
    replace b1 := b0.trans b1
    refine grp1 c_UnknownChannel.x c_UnknownChannel.no h1 (by show 1 ≤ 100; decide) fun H2 v2 e2 e2b b2 h2 S2 => ?_
    have R2 := RowsOk.snoc (RowsOk.but h1 b2 R1) S2
    replace b2 := b1.trans b2
    refine grp1 c_UnknownHop.x c_UnknownHop.no h2 (by show 2 ≤ 100; decide) fun H3 v3 e3 e3b b3 h3 S3 => ?_
    have R3 := RowsOk.snoc (RowsOk.but h2 b3 R2) S3
    replace b3 := b2.trans b3
    refine grp1 c_NoSuchLetter.x c_NoSuchLetter.no h3 (by show 3 ≤ 100; decide) fun H4 v4 e4 e4b b4 h4 S4 => ?_
    have R4 := RowsOk.snoc (RowsOk.but h3 b4 R3) S4
    replace b4 := b3.trans b4
    refine grp1 c_NoSuchTick.x c_NoSuchTick.no h4 (by show 4 ≤ 100; decide) fun H5 v5 e5 e5b b5 h5 S5 => ?_
    have R5 := RowsOk.snoc (RowsOk.but h4 b5 R4) S5
    replace b5 := b4.trans b5
    refine grp1 c_Started.x c_Started.no h5 (by show 5 ≤ 100; decide) fun H6 v6 e6 e6b b6 h6 S6 => ?_
    have R6 := RowsOk.snoc (RowsOk.but h5 b6 R5) S6
    replace b6 := b5.trans b6
    refine grp1 c_NotStrange.x c_NotStrange.no h6 (by show 6 ≤ 100; decide) fun H7 v7 e7 e7b b7 h7 S7 => ?_
    have R7 := RowsOk.snoc (RowsOk.but h6 b7 R6) S7
    replace b7 := b6.trans b7
    refine grp1 c_NotShaky.x c_NotShaky.no h7 (by show 7 ≤ 100; decide) fun H8 v8 e8 e8b b8 h8 S8 => ?_
    have R8 := RowsOk.snoc (RowsOk.but h7 b8 R7) S8
    replace b8 := b7.trans b8
    refine grp1 c_Unseen.x c_Unseen.no h8 (by show 8 ≤ 100; decide) fun H9 v9 e9 e9b b9 h9 S9 => ?_
    have R9 := RowsOk.snoc (RowsOk.but h8 b9 R8) S9
    replace b9 := b8.trans b9
    exact ⟨.ref r, rfl, q _ r _ (fun a o h => b9 a o (ne_of_none h nr) h) nr h9 R9⟩
end
end K70
set_option maxRecDepth 100000
set_option maxHeartbeats 8000000
namespace K70
open PySem PySem.Spec PyProof.Rows L2
theorem boot_ValueError : bootBuiltins "ValueError" = some (.type "ValueError") := by decide +kernel
theorem boot_LookupError : bootBuiltins "LookupError" = some (.type "LookupError") := by decide +kernel
theorem boot_RuntimeError : bootBuiltins "RuntimeError" = some (.type "RuntimeError") := by decide +kernel
/-- each error class that is made: its name, its base's, the base's base -/
def errs3 : List (Str × Str × Str) := [("BadAmount", "BandError", "ValueError"), ("BadLink", "BandError", "ValueError"), ("BadFlow", "BandError", "ValueError"), ("BadAge", "BandError", "ValueError"), ("BadPart", "BandError", "ValueError"), ("TooMany", "BandError", "ValueError"), ("DuplicateName", "BandError", "ValueError"), ("Idle", "BandError", "ValueError"), ("Overpromised", "BandError", "ValueError"), ("Small", "BandError", "ValueError"), ("BadText", "BandError", "ValueError"), ("BadManner", "BandError", "ValueError"), ("BadCapacity", "BandError", "ValueError"), ("BadSharing", "BandError", "ValueError"), ("BadBand", "BandError", "ValueError"), ("NotPlain", "BandError", "ValueError"), ("Future", "BandError", "ValueError"), ("Short", "BandError", "ValueError"), ("BadValue", "BandError", "ValueError"), ("BadState", "BandError", "ValueError"), ("BadCount", "BandError", "ValueError"), ("BadDeed", "BandError", "ValueError"), ("UnknownName", "Missing", "LookupError"), ("UnknownChannel", "Missing", "LookupError"), ("UnknownHop", "Missing", "LookupError"), ("NoSuchLetter", "Missing", "LookupError"), ("NoSuchTick", "Missing", "LookupError"), ("Started", "Refused", "RuntimeError"), ("NotStrange", "Refused", "RuntimeError"), ("NotShaky", "Refused", "RuntimeError"), ("Unseen", "Refused", "RuntimeError")]
/-- all own classes -/
def ownNames : List Str := (["BandError", "BadAmount", "BadLink", "BadFlow", "BadAge", "BadPart", "TooMany", "DuplicateName", "Idle", "Overpromised", "Small", "BadText", "BadManner", "BadCapacity", "BadSharing", "BadBand", "NotPlain", "Future", "Short", "BadValue", "BadState", "BadCount", "BadDeed", "Missing", "UnknownName", "UnknownChannel", "UnknownHop", "NoSuchLetter", "NoSuchTick", "Refused", "Started", "NotStrange", "NotShaky", "Unseen"] : List String).map PySem.Str.ofString
structure Owns (K : PySem.W.Frag) (mg : Str → Option Value) : Prop where
  g : ∀ n ∈ ownNames, mg n = some (.ref (He.ga K n))
  ko : ∀ q ∈ errs3, ∀ n ∈ ownNames, PySem.W.kitOne K (.ref (He.ga K q.1)) (.ref (He.ga K n)) = some (decide (n = q.1 ∨ n = q.2.1))
  kt : ∀ q ∈ errs3, ∀ n ∈ (["ValueError", "LookupError", "RuntimeError"] : List String), PySem.W.kitOne K (.ref (He.ga K q.1)) (.type n) = some (decide (PySem.Str.ofString n = q.2.2))
  xc : ∀ q ∈ errs3, XC K (He.ga K q.1)
def ifN (b : Bool) (nm : Str) : List Str := if b = true then [nm] else []
def onesOf (q : Str × Str × Str) (l : List Str) : List Str := l.foldl (fun acc n => acc ++ ifN (decide (n = q.1 ∨ n = q.2.1)) n) []
theorem ifN_len (b : Bool) (nm : Str) : (ifN b nm).length ≤ 1 := by
  cases b
  · exact Nat.zero_le _
  · exact Nat.le_refl _
theorem ones_len (q : Str × Str × Str) (l : List Str) : (onesOf q l).length ≤ l.length := by
  have key : ∀ (l acc : List Str), (l.foldl (fun acc n => acc ++ ifN (decide (n = q.1 ∨ n = q.2.1)) n) acc).length ≤ acc.length + l.length := by
    intro l
    induction l with
    | nil => exact fun acc => Nat.le_refl _
    | cons x r ih =>
      intro acc
      have h := ih (acc ++ ifN (decide (x = q.1 ∨ x = q.2.1)) x)
      have h2 := ifN_len (decide (x = q.1 ∨ x = q.2.1)) x
      rw [List.length_append] at h
      rw [List.foldl_cons, List.length_cons]
      omega
  have h := key l []
  rw [List.length_nil, Nat.zero_add] at h
  exact h
theorem add_len {xs ys : List Str} {n m : Nat} (h1 : xs.length ≤ n) (h2 : ys.length ≤ m) (h : n + m ≤ 100) : (xs.map V.str).length + (ys.map V.str).length ≤ sizeLine := by
  rw [List.length_map, List.length_map]
  exact Nat.le_trans (show xs.length + ys.length ≤ 100 by omega) (by decide)
theorem app_len {xs ys : List Str} {n m : Nat} (h1 : xs.length ≤ n) (h2 : ys.length ≤ m) : (xs ++ ys).length ≤ n + m := by
  rw [List.length_append]
  omega
section
variable {K : PySem.W.Frag} {D : Ends} {rest : TS} {e r Cd : Addr} {fs : List (Str × V)} {acc : List Str} {H : Hp} {nm : Str} {c : V} {u : Value} {b : Bool} {n : Nat}
/-- if isinstance(error, C): found.append(nm) -/
theorem one_if (hc : ClsV c u) (T : XC K Cd) (er : Err H e Cd fs) (hk : PySem.W.kitOne K (.ref Cd) u = some b) (hr : H r = some (.lst (acc.map V.str))) (hl : acc.length ≤ n) (hn : n ≤ 100)
    (k : ∀ H', ButR r H H' → H' r = some (.lst ((acc ++ ifN b nm).map V.str)) → (acc ++ ifN b nm).length ≤ n + 1 → rest D [some (.ref e), some (.ref r)] H') :
    C8.tCut (tIfS (tB (tCB (rIsX K) (tCons (tVar 0) (tCons (tC c) tNil)))) (tDrop (tBM K "list" rAppend (tVar 1) (tCons (tC (.str nm)) tNil))) tNext) rest D [some (.ref e), some (.ref r)] H := by
  refine ⟨fun σ' H' => σ' = [some (.ref e), some (.ref r)] ∧ ButR r H H' ∧ H' r = some (.lst ((acc ++ ifN b nm).map V.str)), ?_, fun σ' H' h => ?_⟩
  · refine ⟨.ref e, rfl, e, Cd, c, fs, u, b, rfl, hc, T, er, hk, _, rfl, ?_⟩
    cases b with
    | true =>
      refine iteT ?_
      refine ⟨.ref r, rfl, .inl ⟨rfl, _, .inl (.inl hr)⟩, r, _, _, rfl, rfl, hr, ?_, rfl, fun a o n h => ?_, ?_⟩
      · rw [List.length_map]
        exact Nat.lt_of_le_of_lt (show acc.length ≤ 100 by omega) (by decide)
      · rw [upd_ne n]
        exact h
      · rw [upd_same, List.map_append]
        rfl
    | false =>
      refine iteF ⟨rfl, fun a o n h => h, ?_⟩
      show H r = some (.lst ((acc ++ []).map V.str))
      rw [List.append_nil]
      exact hr
  · obtain ⟨rfl, h1, h2⟩ := h
    refine k H' h1 h2 ?_
    rw [List.length_append]
    have := ifN_len b nm
    omega
end
def spOnes (K : PySem.W.Frag) (names : List Str) : Sp := fun vs H Q _ => ∃ (e : Addr) (q : Str × Str × Str) (fs : List (Str × V)), vs = [.ref e] ∧ q ∈ errs3 ∧ XC K (He.ga K q.1) ∧ Err H e (He.ga K q.1) fs ∧
  ∀ H' p, Same H H' → H p = none → H' p = some (.lst ((onesOf q names).map V.str)) → Q (.ref p) H'
def spKnown (K : PySem.W.Frag) : Sp := fun vs H Q _ => ∃ (e : Addr) (q : Str × Str × Str) (fs : List (Str × V)), vs = [.ref e] ∧ q ∈ errs3 ∧ XC K (He.ga K q.1) ∧ Err H e (He.ga K q.1) fs ∧
  ∀ H' p, Same H H' → H p = none → H' p = some (.lst (([q.2.1, q.2.2, q.1] : List Str).map V.str)) → Q (.ref p) H'
section
variable {P : Program} {w : World} {K : PySem.W.Frag} {mg : Str → Option Value} {base : Heap}
abbrev COnes (P : Program) (w : World) (K : PySem.W.Frag) (mg : Str → Option Value) (base : Heap) (x : Str) (names : List Str) : Prop := Call1 P w K mg base x 1 ["_law_error"] (spOnes K names)
abbrev sFirstOnes : Stmt := topS 47
theorem scFirstOnes : FnScope ["_law_error", "_law_found"] ["_law_error"] (defScope sFirstOnes) := ⟨rfl, rfl, rfl, by decide +kernel, rfl, by decide +kernel, by decide +kernel⟩
def nFirstOnes : List Str := ["BadAmount", "BadLink", "BadFlow", "BadAge", "BadPart", "TooMany", "DuplicateName", "Idle", "Overpromised", "Small", "BadText"]
theorem ok_FirstOnes (D : DefT K mg "_law_first_ones" sFirstOnes) (B : Bl mg) (O : Owns K mg) : COnes P w K mg base "_law_first_ones" nFirstOnes := by
  have g_BadAmount := O.g "BadAmount" (by decide +kernel)
  have g_BadLink := O.g "BadLink" (by decide +kernel)
  have g_BadFlow := O.g "BadFlow" (by decide +kernel)
  have g_BadAge := O.g "BadAge" (by decide +kernel)
  have g_BadPart := O.g "BadPart" (by decide +kernel)
  have g_TooMany := O.g "TooMany" (by decide +kernel)
  have g_DuplicateName := O.g "DuplicateName" (by decide +kernel)
  have g_Idle := O.g "Idle" (by decide +kernel)
  have g_Overpromised := O.g "Overpromised" (by decide +kernel)
  have g_Small := O.g "Small" (by decide +kernel)
  have g_BadText := O.g "BadText" (by decide +kernel)
  refine D.call scFirstOnes (fun vs H Q E h => ?_) (fun _ _ _ _ _ _ us hl => match us, hl with | [_], _ => rfl) (fun f cdv A outer s H vs Q E hr h => ?_)
  · obtain ⟨e, q, fs, rfl, _⟩ := h
    rfl
  · refine ⟨_, (pss_cons (ps_set (i := 1) scFirstOnes.nd rfl (.inl rfl) (pe_lst pa_nil))
 (C8.pss_cut (ps_if (pt_val (pe_callB call_isX (by rfl) B.isinstance boot_isinstance (pa_cons (pv 0) (pa_cons (pe_glob (v := .ref _) (by rfl) g_BadAmount rfl) pa_nil))) (fun _ => rfl))
 (pss_one (ps_expr (pe_bm PySem.F.plainAttrs_list PySem.F.slot_list_append PySem.F.type_list_append mt_append (pv 1) (pa_cons pe_str pa_nil))))
 pss_nil)
 (C8.pss_cut (ps_if (pt_val (pe_callB call_isX (by rfl) B.isinstance boot_isinstance (pa_cons (pv 0) (pa_cons (pe_glob (v := .ref _) (by rfl) g_BadLink rfl) pa_nil))) (fun _ => rfl))
 (pss_one (ps_expr (pe_bm PySem.F.plainAttrs_list PySem.F.slot_list_append PySem.F.type_list_append mt_append (pv 1) (pa_cons pe_str pa_nil))))
 pss_nil)
 (C8.pss_cut (ps_if (pt_val (pe_callB call_isX (by rfl) B.isinstance boot_isinstance (pa_cons (pv 0) (pa_cons (pe_glob (v := .ref _) (by rfl) g_BadFlow rfl) pa_nil))) (fun _ => rfl))
 (pss_one (ps_expr (pe_bm PySem.F.plainAttrs_list PySem.F.slot_list_append PySem.F.type_list_append mt_append (pv 1) (pa_cons pe_str pa_nil))))
 pss_nil)
 (C8.pss_cut (ps_if (pt_val (pe_callB call_isX (by rfl) B.isinstance boot_isinstance (pa_cons (pv 0) (pa_cons (pe_glob (v := .ref _) (by rfl) g_BadAge rfl) pa_nil))) (fun _ => rfl))
 (pss_one (ps_expr (pe_bm PySem.F.plainAttrs_list PySem.F.slot_list_append PySem.F.type_list_append mt_append (pv 1) (pa_cons pe_str pa_nil))))
 pss_nil)
 (C8.pss_cut (ps_if (pt_val (pe_callB call_isX (by rfl) B.isinstance boot_isinstance (pa_cons (pv 0) (pa_cons (pe_glob (v := .ref _) (by rfl) g_BadPart rfl) pa_nil))) (fun _ => rfl))
 (pss_one (ps_expr (pe_bm PySem.F.plainAttrs_list PySem.F.slot_list_append PySem.F.type_list_append mt_append (pv 1) (pa_cons pe_str pa_nil))))
 pss_nil)
 (C8.pss_cut (ps_if (pt_val (pe_callB call_isX (by rfl) B.isinstance boot_isinstance (pa_cons (pv 0) (pa_cons (pe_glob (v := .ref _) (by rfl) g_TooMany rfl) pa_nil))) (fun _ => rfl))
 (pss_one (ps_expr (pe_bm PySem.F.plainAttrs_list PySem.F.slot_list_append PySem.F.type_list_append mt_append (pv 1) (pa_cons pe_str pa_nil))))
 pss_nil)
 (C8.pss_cut (ps_if (pt_val (pe_callB call_isX (by rfl) B.isinstance boot_isinstance (pa_cons (pv 0) (pa_cons (pe_glob (v := .ref _) (by rfl) g_DuplicateName rfl) pa_nil))) (fun _ => rfl))
 (pss_one (ps_expr (pe_bm PySem.F.plainAttrs_list PySem.F.slot_list_append PySem.F.type_list_append mt_append (pv 1) (pa_cons pe_str pa_nil))))
 pss_nil)
 (C8.pss_cut (ps_if (pt_val (pe_callB call_isX (by rfl) B.isinstance boot_isinstance (pa_cons (pv 0) (pa_cons (pe_glob (v := .ref _) (by rfl) g_Idle rfl) pa_nil))) (fun _ => rfl))
 (pss_one (ps_expr (pe_bm PySem.F.plainAttrs_list PySem.F.slot_list_append PySem.F.type_list_append mt_append (pv 1) (pa_cons pe_str pa_nil))))
 pss_nil)
 (C8.pss_cut (ps_if (pt_val (pe_callB call_isX (by rfl) B.isinstance boot_isinstance (pa_cons (pv 0) (pa_cons (pe_glob (v := .ref _) (by rfl) g_Overpromised rfl) pa_nil))) (fun _ => rfl))
 (pss_one (ps_expr (pe_bm PySem.F.plainAttrs_list PySem.F.slot_list_append PySem.F.type_list_append mt_append (pv 1) (pa_cons pe_str pa_nil))))
 pss_nil)
 (C8.pss_cut (ps_if (pt_val (pe_callB call_isX (by rfl) B.isinstance boot_isinstance (pa_cons (pv 0) (pa_cons (pe_glob (v := .ref _) (by rfl) g_Small rfl) pa_nil))) (fun _ => rfl))
 (pss_one (ps_expr (pe_bm PySem.F.plainAttrs_list PySem.F.slot_list_append PySem.F.type_list_append mt_append (pv 1) (pa_cons pe_str pa_nil))))
 pss_nil)
 (C8.pss_cut (ps_if (pt_val (pe_callB call_isX (by rfl) B.isinstance boot_isinstance (pa_cons (pv 0) (pa_cons (pe_glob (v := .ref _) (by rfl) g_BadText rfl) pa_nil))) (fun _ => rfl))
 (pss_one (ps_expr (pe_bm PySem.F.plainAttrs_list PySem.F.slot_list_append PySem.F.type_list_append mt_append (pv 1) (pa_cons pe_str pa_nil))))
 pss_nil)
 (pss_one (ps_ret (pv 1))))))))))))))), ?_⟩
    obtain ⟨e, q, fs, rfl, hq, T, er, k⟩ := h
    refine ⟨Nat.zero_le _, fun r nr => ?_⟩
    have h0 : (upd H r (.lst [])) r = some (.lst (([] : List Str).map V.str)) := upd_same
    have l0 : ([] : List Str).length ≤ 0 := Nat.le_refl _
    have s0 : Same H (upd H r (.lst [])) := same_new nr
    have b0 : ButR r H (upd H r (.lst [])) := ButR.of s0
    have E0 := er.same s0
    generalize upd H r (.lst []) = H0 at h0 b0 E0 ⊢
    refine one_if (nm := "BadAmount") (n := 0) (.own _) T E0 (O.ko q hq "BadAmount" (by decide +kernel)) h0 l0 (by decide) fun H1 b1 h1 l1 => ?_
    have E1 := E0.but h0 b1
    replace b1 := b0.trans b1
    refine one_if (nm := "BadLink") (n := 1) (.own _) T E1 (O.ko q hq "BadLink" (by decide +kernel)) h1 l1 (by decide) fun H2 b2 h2 l2 => ?_
    have E2 := E1.but h1 b2
    replace b2 := b1.trans b2
    refine one_if (nm := "BadFlow") (n := 2) (.own _) T E2 (O.ko q hq "BadFlow" (by decide +kernel)) h2 l2 (by decide) fun H3 b3 h3 l3 => ?_
    have E3 := E2.but h2 b3
    replace b3 := b2.trans b3
    refine one_if (nm := "BadAge") (n := 3) (.own _) T E3 (O.ko q hq "BadAge" (by decide +kernel)) h3 l3 (by decide) fun H4 b4 h4 l4 => ?_
    have E4 := E3.but h3 b4
    replace b4 := b3.trans b4
    refine one_if (nm := "BadPart") (n := 4) (.own _) T E4 (O.ko q hq "BadPart" (by decide +kernel)) h4 l4 (by decide) fun H5 b5 h5 l5 => ?_
    have E5 := E4.but h4 b5
    replace b5 := b4.trans b5
    refine one_if (nm := "TooMany") (n := 5) (.own _) T E5 (O.ko q hq "TooMany" (by decide +kernel)) h5 l5 (by decide) fun H6 b6 h6 l6 => ?_
    have E6 := E5.but h5 b6
    replace b6 := b5.trans b6
    refine one_if (nm := "DuplicateName") (n := 6) (.own _) T E6 (O.ko q hq "DuplicateName" (by decide +kernel)) h6 l6 (by decide) fun H7 b7 h7 l7 => ?_
    have E7 := E6.but h6 b7
    replace b7 := b6.trans b7
    refine one_if (nm := "Idle") (n := 7) (.own _) T E7 (O.ko q hq "Idle" (by decide +kernel)) h7 l7 (by decide) fun H8 b8 h8 l8 => ?_
    have E8 := E7.but h7 b8
    replace b8 := b7.trans b8
    refine one_if (nm := "Overpromised") (n := 8) (.own _) T E8 (O.ko q hq "Overpromised" (by decide +kernel)) h8 l8 (by decide) fun H9 b9 h9 l9 => ?_
    have E9 := E8.but h8 b9
    replace b9 := b8.trans b9
    refine one_if (nm := "Small") (n := 9) (.own _) T E9 (O.ko q hq "Small" (by decide +kernel)) h9 l9 (by decide) fun H10 b10 h10 l10 => ?_
    have E10 := E9.but h9 b10
    replace b10 := b9.trans b10
    refine one_if (nm := "BadText") (n := 10) (.own _) T E10 (O.ko q hq "BadText" (by decide +kernel)) h10 l10 (by decide) fun H11 b11 h11 l11 => ?_
    have E11 := E10.but h10 b11
    replace b11 := b10.trans b11
    exact ⟨.ref r, rfl, k _ r (fun a o h => b11 a o (ne_of_none h nr) h) nr h11⟩
abbrev sMiddleOnes : Stmt := topS 48
theorem scMiddleOnes : FnScope ["_law_error", "_law_found"] ["_law_error"] (defScope sMiddleOnes) := ⟨rfl, rfl, rfl, by decide +kernel, rfl, by decide +kernel, by decide +kernel⟩
def nMiddleOnes : List Str := ["BadManner", "BadCapacity", "BadSharing", "BadBand", "NotPlain", "Future", "Short", "BadValue", "BadState", "BadCount", "BadDeed"]
theorem ok_MiddleOnes (D : DefT K mg "_law_middle_ones" sMiddleOnes) (B : Bl mg) (O : Owns K mg) : COnes P w K mg base "_law_middle_ones" nMiddleOnes := by
  have g_BadManner := O.g "BadManner" (by decide +kernel)
  have g_BadCapacity := O.g "BadCapacity" (by decide +kernel)
  have g_BadSharing := O.g "BadSharing" (by decide +kernel)
  have g_BadBand := O.g "BadBand" (by decide +kernel)
  have g_NotPlain := O.g "NotPlain" (by decide +kernel)
  have g_Future := O.g "Future" (by decide +kernel)
  have g_Short := O.g "Short" (by decide +kernel)
  have g_BadValue := O.g "BadValue" (by decide +kernel)
  have g_BadState := O.g "BadState" (by decide +kernel)
  have g_BadCount := O.g "BadCount" (by decide +kernel)
  have g_BadDeed := O.g "BadDeed" (by decide +kernel)
  refine D.call scMiddleOnes (fun vs H Q E h => ?_) (fun _ _ _ _ _ _ us hl => match us, hl with | [_], _ => rfl) (fun f cdv A outer s H vs Q E hr h => ?_)
  · obtain ⟨e, q, fs, rfl, _⟩ := h
    rfl
  · refine ⟨_, (pss_cons (ps_set (i := 1) scMiddleOnes.nd rfl (.inl rfl) (pe_lst pa_nil))
 (C8.pss_cut (ps_if (pt_val (pe_callB call_isX (by rfl) B.isinstance boot_isinstance (pa_cons (pv 0) (pa_cons (pe_glob (v := .ref _) (by rfl) g_BadManner rfl) pa_nil))) (fun _ => rfl))
 (pss_one (ps_expr (pe_bm PySem.F.plainAttrs_list PySem.F.slot_list_append PySem.F.type_list_append mt_append (pv 1) (pa_cons pe_str pa_nil))))
 pss_nil)
 (C8.pss_cut (ps_if (pt_val (pe_callB call_isX (by rfl) B.isinstance boot_isinstance (pa_cons (pv 0) (pa_cons (pe_glob (v := .ref _) (by rfl) g_BadCapacity rfl) pa_nil))) (fun _ => rfl))
 (pss_one (ps_expr (pe_bm PySem.F.plainAttrs_list PySem.F.slot_list_append PySem.F.type_list_append mt_append (pv 1) (pa_cons pe_str pa_nil))))
 pss_nil)
 (C8.pss_cut (ps_if (pt_val (pe_callB call_isX (by rfl) B.isinstance boot_isinstance (pa_cons (pv 0) (pa_cons (pe_glob (v := .ref _) (by rfl) g_BadSharing rfl) pa_nil))) (fun _ => rfl))
 (pss_one (ps_expr (pe_bm PySem.F.plainAttrs_list PySem.F.slot_list_append PySem.F.type_list_append mt_append (pv 1) (pa_cons pe_str pa_nil))))
 pss_nil)
 (C8.pss_cut (ps_if (pt_val (pe_callB call_isX (by rfl) B.isinstance boot_isinstance (pa_cons (pv 0) (pa_cons (pe_glob (v := .ref _) (by rfl) g_BadBand rfl) pa_nil))) (fun _ => rfl))
 (pss_one (ps_expr (pe_bm PySem.F.plainAttrs_list PySem.F.slot_list_append PySem.F.type_list_append mt_append (pv 1) (pa_cons pe_str pa_nil))))
 pss_nil)
 (C8.pss_cut (ps_if (pt_val (pe_callB call_isX (by rfl) B.isinstance boot_isinstance (pa_cons (pv 0) (pa_cons (pe_glob (v := .ref _) (by rfl) g_NotPlain rfl) pa_nil))) (fun _ => rfl))
 (pss_one (ps_expr (pe_bm PySem.F.plainAttrs_list PySem.F.slot_list_append PySem.F.type_list_append mt_append (pv 1) (pa_cons pe_str pa_nil))))
 pss_nil)
 (C8.pss_cut (ps_if (pt_val (pe_callB call_isX (by rfl) B.isinstance boot_isinstance (pa_cons (pv 0) (pa_cons (pe_glob (v := .ref _) (by rfl) g_Future rfl) pa_nil))) (fun _ => rfl))
 (pss_one (ps_expr (pe_bm PySem.F.plainAttrs_list PySem.F.slot_list_append PySem.F.type_list_append mt_append (pv 1) (pa_cons pe_str pa_nil))))
 pss_nil)
 (C8.pss_cut (ps_if (pt_val (pe_callB call_isX (by rfl) B.isinstance boot_isinstance (pa_cons (pv 0) (pa_cons (pe_glob (v := .ref _) (by rfl) g_Short rfl) pa_nil))) (fun _ => rfl))
 (pss_one (ps_expr (pe_bm PySem.F.plainAttrs_list PySem.F.slot_list_append PySem.F.type_list_append mt_append (pv 1) (pa_cons pe_str pa_nil))))
 pss_nil)
 (C8.pss_cut (ps_if (pt_val (pe_callB call_isX (by rfl) B.isinstance boot_isinstance (pa_cons (pv 0) (pa_cons (pe_glob (v := .ref _) (by rfl) g_BadValue rfl) pa_nil))) (fun _ => rfl))
 (pss_one (ps_expr (pe_bm PySem.F.plainAttrs_list PySem.F.slot_list_append PySem.F.type_list_append mt_append (pv 1) (pa_cons pe_str pa_nil))))
 pss_nil)
 (C8.pss_cut (ps_if (pt_val (pe_callB call_isX (by rfl) B.isinstance boot_isinstance (pa_cons (pv 0) (pa_cons (pe_glob (v := .ref _) (by rfl) g_BadState rfl) pa_nil))) (fun _ => rfl))
 (pss_one (ps_expr (pe_bm PySem.F.plainAttrs_list PySem.F.slot_list_append PySem.F.type_list_append mt_append (pv 1) (pa_cons pe_str pa_nil))))
 pss_nil)
 (C8.pss_cut (ps_if (pt_val (pe_callB call_isX (by rfl) B.isinstance boot_isinstance (pa_cons (pv 0) (pa_cons (pe_glob (v := .ref _) (by rfl) g_BadCount rfl) pa_nil))) (fun _ => rfl))
 (pss_one (ps_expr (pe_bm PySem.F.plainAttrs_list PySem.F.slot_list_append PySem.F.type_list_append mt_append (pv 1) (pa_cons pe_str pa_nil))))
 pss_nil)
 (C8.pss_cut (ps_if (pt_val (pe_callB call_isX (by rfl) B.isinstance boot_isinstance (pa_cons (pv 0) (pa_cons (pe_glob (v := .ref _) (by rfl) g_BadDeed rfl) pa_nil))) (fun _ => rfl))
 (pss_one (ps_expr (pe_bm PySem.F.plainAttrs_list PySem.F.slot_list_append PySem.F.type_list_append mt_append (pv 1) (pa_cons pe_str pa_nil))))
 pss_nil)
 (pss_one (ps_ret (pv 1))))))))))))))), ?_⟩
    obtain ⟨e, q, fs, rfl, hq, T, er, k⟩ := h
    refine ⟨Nat.zero_le _, fun r nr => ?_⟩
    have h0 : (upd H r (.lst [])) r = some (.lst (([] : List Str).map V.str)) := upd_same
    have l0 : ([] : List Str).length ≤ 0 := Nat.le_refl _
    have s0 : Same H (upd H r (.lst [])) := same_new nr
    have b0 : ButR r H (upd H r (.lst [])) := ButR.of s0
    have E0 := er.same s0
    generalize upd H r (.lst []) = H0 at h0 b0 E0 ⊢
    refine one_if (nm := "BadManner") (n := 0) (.own _) T E0 (O.ko q hq "BadManner" (by decide +kernel)) h0 l0 (by decide) fun H1 b1 h1 l1 => ?_
    have E1 := E0.but h0 b1
    replace b1 := b0.trans b1
    refine one_if (nm := "BadCapacity") (n := 1) (.own _) T E1 (O.ko q hq "BadCapacity" (by decide +kernel)) h1 l1 (by decide) fun H2 b2 h2 l2 => ?_
    have E2 := E1.but h1 b2
    replace b2 := b1.trans b2
    refine one_if (nm := "BadSharing") (n := 2) (.own _) T E2 (O.ko q hq "BadSharing" (by decide +kernel)) h2 l2 (by decide) fun H3 b3 h3 l3 => ?_
    have E3 := E2.but h2 b3
    replace b3 := b2.trans b3
    refine one_if (nm := "BadBand") (n := 3) (.own _) T E3 (O.ko q hq "BadBand" (by decide +kernel)) h3 l3 (by decide) fun H4 b4 h4 l4 => ?_
    have E4 := E3.but h3 b4
    replace b4 := b3.trans b4
    refine one_if (nm := "NotPlain") (n := 4) (.own _) T E4 (O.ko q hq "NotPlain" (by decide +kernel)) h4 l4 (by decide) fun H5 b5 h5 l5 => ?_
    have E5 := E4.but h4 b5
    replace b5 := b4.trans b5
    refine one_if (nm := "Future") (n := 5) (.own _) T E5 (O.ko q hq "Future" (by decide +kernel)) h5 l5 (by decide) fun H6 b6 h6 l6 => ?_
    have E6 := E5.but h5 b6
    replace b6 := b5.trans b6
    refine one_if (nm := "Short") (n := 6) (.own _) T E6 (O.ko q hq "Short" (by decide +kernel)) h6 l6 (by decide) fun H7 b7 h7 l7 => ?_
    have E7 := E6.but h6 b7
    replace b7 := b6.trans b7
    refine one_if (nm := "BadValue") (n := 7) (.own _) T E7 (O.ko q hq "BadValue" (by decide +kernel)) h7 l7 (by decide) fun H8 b8 h8 l8 => ?_
    have E8 := E7.but h7 b8
    replace b8 := b7.trans b8
    refine one_if (nm := "BadState") (n := 8) (.own _) T E8 (O.ko q hq "BadState" (by decide +kernel)) h8 l8 (by decide) fun H9 b9 h9 l9 => ?_
    have E9 := E8.but h8 b9
    replace b9 := b8.trans b9
    refine one_if (nm := "BadCount") (n := 9) (.own _) T E9 (O.ko q hq "BadCount" (by decide +kernel)) h9 l9 (by decide) fun H10 b10 h10 l10 => ?_
    have E10 := E9.but h9 b10
    replace b10 := b9.trans b10
    refine one_if (nm := "BadDeed") (n := 10) (.own _) T E10 (O.ko q hq "BadDeed" (by decide +kernel)) h10 l10 (by decide) fun H11 b11 h11 l11 => ?_
    have E11 := E10.but h10 b11
    replace b11 := b10.trans b11
    exact ⟨.ref r, rfl, k _ r (fun a o h => b11 a o (ne_of_none h nr) h) nr h11⟩
abbrev sLastOnes : Stmt := topS 49
theorem scLastOnes : FnScope ["_law_error", "_law_found"] ["_law_error"] (defScope sLastOnes) := ⟨rfl, rfl, rfl, by decide +kernel, rfl, by decide +kernel, by decide +kernel⟩
def nLastOnes : List Str := ["UnknownName", "UnknownChannel", "UnknownHop", "NoSuchLetter", "NoSuchTick", "Started", "NotStrange", "NotShaky", "Unseen"]
theorem ok_LastOnes (D : DefT K mg "_law_last_ones" sLastOnes) (B : Bl mg) (O : Owns K mg) : COnes P w K mg base "_law_last_ones" nLastOnes := by
  have g_UnknownName := O.g "UnknownName" (by decide +kernel)
  have g_UnknownChannel := O.g "UnknownChannel" (by decide +kernel)
  have g_UnknownHop := O.g "UnknownHop" (by decide +kernel)
  have g_NoSuchLetter := O.g "NoSuchLetter" (by decide +kernel)
  have g_NoSuchTick := O.g "NoSuchTick" (by decide +kernel)
  have g_Started := O.g "Started" (by decide +kernel)
  have g_NotStrange := O.g "NotStrange" (by decide +kernel)
  have g_NotShaky := O.g "NotShaky" (by decide +kernel)
  have g_Unseen := O.g "Unseen" (by decide +kernel)
  refine D.call scLastOnes (fun vs H Q E h => ?_) (fun _ _ _ _ _ _ us hl => match us, hl with | [_], _ => rfl) (fun f cdv A outer s H vs Q E hr h => ?_)
  · obtain ⟨e, q, fs, rfl, _⟩ := h
    rfl
  · refine ⟨_, (pss_cons (ps_set (i := 1) scLastOnes.nd rfl (.inl rfl) (pe_lst pa_nil))
 (C8.pss_cut (ps_if (pt_val (pe_callB call_isX (by rfl) B.isinstance boot_isinstance (pa_cons (pv 0) (pa_cons (pe_glob (v := .ref _) (by rfl) g_UnknownName rfl) pa_nil))) (fun _ => rfl))
 (pss_one (ps_expr (pe_bm PySem.F.plainAttrs_list PySem.F.slot_list_append PySem.F.type_list_append mt_append (pv 1) (pa_cons pe_str pa_nil))))
 pss_nil)
 (C8.pss_cut (ps_if (pt_val (pe_callB call_isX (by rfl) B.isinstance boot_isinstance (pa_cons (pv 0) (pa_cons (pe_glob (v := .ref _) (by rfl) g_UnknownChannel rfl) pa_nil))) (fun _ => rfl))
 (pss_one (ps_expr (pe_bm PySem.F.plainAttrs_list PySem.F.slot_list_append PySem.F.type_list_append mt_append (pv 1) (pa_cons pe_str pa_nil))))
 pss_nil)
 (C8.pss_cut (ps_if (pt_val (pe_callB call_isX (by rfl) B.isinstance boot_isinstance (pa_cons (pv 0) (pa_cons (pe_glob (v := .ref _) (by rfl) g_UnknownHop rfl) pa_nil))) (fun _ => rfl))
 (pss_one (ps_expr (pe_bm PySem.F.plainAttrs_list PySem.F.slot_list_append PySem.F.type_list_append mt_append (pv 1) (pa_cons pe_str pa_nil))))
 pss_nil)
 (C8.pss_cut (ps_if (pt_val (pe_callB call_isX (by rfl) B.isinstance boot_isinstance (pa_cons (pv 0) (pa_cons (pe_glob (v := .ref _) (by rfl) g_NoSuchLetter rfl) pa_nil))) (fun _ => rfl))
 (pss_one (ps_expr (pe_bm PySem.F.plainAttrs_list PySem.F.slot_list_append PySem.F.type_list_append mt_append (pv 1) (pa_cons pe_str pa_nil))))
 pss_nil)
 (C8.pss_cut (ps_if (pt_val (pe_callB call_isX (by rfl) B.isinstance boot_isinstance (pa_cons (pv 0) (pa_cons (pe_glob (v := .ref _) (by rfl) g_NoSuchTick rfl) pa_nil))) (fun _ => rfl))
 (pss_one (ps_expr (pe_bm PySem.F.plainAttrs_list PySem.F.slot_list_append PySem.F.type_list_append mt_append (pv 1) (pa_cons pe_str pa_nil))))
 pss_nil)
 (C8.pss_cut (ps_if (pt_val (pe_callB call_isX (by rfl) B.isinstance boot_isinstance (pa_cons (pv 0) (pa_cons (pe_glob (v := .ref _) (by rfl) g_Started rfl) pa_nil))) (fun _ => rfl))
 (pss_one (ps_expr (pe_bm PySem.F.plainAttrs_list PySem.F.slot_list_append PySem.F.type_list_append mt_append (pv 1) (pa_cons pe_str pa_nil))))
 pss_nil)
 (C8.pss_cut (ps_if (pt_val (pe_callB call_isX (by rfl) B.isinstance boot_isinstance (pa_cons (pv 0) (pa_cons (pe_glob (v := .ref _) (by rfl) g_NotStrange rfl) pa_nil))) (fun _ => rfl))
 (pss_one (ps_expr (pe_bm PySem.F.plainAttrs_list PySem.F.slot_list_append PySem.F.type_list_append mt_append (pv 1) (pa_cons pe_str pa_nil))))
 pss_nil)
 (C8.pss_cut (ps_if (pt_val (pe_callB call_isX (by rfl) B.isinstance boot_isinstance (pa_cons (pv 0) (pa_cons (pe_glob (v := .ref _) (by rfl) g_NotShaky rfl) pa_nil))) (fun _ => rfl))
 (pss_one (ps_expr (pe_bm PySem.F.plainAttrs_list PySem.F.slot_list_append PySem.F.type_list_append mt_append (pv 1) (pa_cons pe_str pa_nil))))
 pss_nil)
 (C8.pss_cut (ps_if (pt_val (pe_callB call_isX (by rfl) B.isinstance boot_isinstance (pa_cons (pv 0) (pa_cons (pe_glob (v := .ref _) (by rfl) g_Unseen rfl) pa_nil))) (fun _ => rfl))
 (pss_one (ps_expr (pe_bm PySem.F.plainAttrs_list PySem.F.slot_list_append PySem.F.type_list_append mt_append (pv 1) (pa_cons pe_str pa_nil))))
 pss_nil)
 (pss_one (ps_ret (pv 1))))))))))))), ?_⟩
    obtain ⟨e, q, fs, rfl, hq, T, er, k⟩ := h
    refine ⟨Nat.zero_le _, fun r nr => ?_⟩
    have h0 : (upd H r (.lst [])) r = some (.lst (([] : List Str).map V.str)) := upd_same
    have l0 : ([] : List Str).length ≤ 0 := Nat.le_refl _
    have s0 : Same H (upd H r (.lst [])) := same_new nr
    have b0 : ButR r H (upd H r (.lst [])) := ButR.of s0
    have E0 := er.same s0
    generalize upd H r (.lst []) = H0 at h0 b0 E0 ⊢
    refine one_if (nm := "UnknownName") (n := 0) (.own _) T E0 (O.ko q hq "UnknownName" (by decide +kernel)) h0 l0 (by decide) fun H1 b1 h1 l1 => ?_
    have E1 := E0.but h0 b1
    replace b1 := b0.trans b1
    refine one_if (nm := "UnknownChannel") (n := 1) (.own _) T E1 (O.ko q hq "UnknownChannel" (by decide +kernel)) h1 l1 (by decide) fun H2 b2 h2 l2 => ?_
    have E2 := E1.but h1 b2
    replace b2 := b1.trans b2
    refine one_if (nm := "UnknownHop") (n := 2) (.own _) T E2 (O.ko q hq "UnknownHop" (by decide +kernel)) h2 l2 (by decide) fun H3 b3 h3 l3 => ?_
    have E3 := E2.but h2 b3
    replace b3 := b2.trans b3
    refine one_if (nm := "NoSuchLetter") (n := 3) (.own _) T E3 (O.ko q hq "NoSuchLetter" (by decide +kernel)) h3 l3 (by decide) fun H4 b4 h4 l4 => ?_
    have E4 := E3.but h3 b4
    replace b4 := b3.trans b4
    refine one_if (nm := "NoSuchTick") (n := 4) (.own _) T E4 (O.ko q hq "NoSuchTick" (by decide +kernel)) h4 l4 (by decide) fun H5 b5 h5 l5 => ?_
    have E5 := E4.but h4 b5
    replace b5 := b4.trans b5
    refine one_if (nm := "Started") (n := 5) (.own _) T E5 (O.ko q hq "Started" (by decide +kernel)) h5 l5 (by decide) fun H6 b6 h6 l6 => ?_
    have E6 := E5.but h5 b6
    replace b6 := b5.trans b6
    refine one_if (nm := "NotStrange") (n := 6) (.own _) T E6 (O.ko q hq "NotStrange" (by decide +kernel)) h6 l6 (by decide) fun H7 b7 h7 l7 => ?_
    have E7 := E6.but h6 b7
    replace b7 := b6.trans b7
    refine one_if (nm := "NotShaky") (n := 7) (.own _) T E7 (O.ko q hq "NotShaky" (by decide +kernel)) h7 l7 (by decide) fun H8 b8 h8 l8 => ?_
    have E8 := E7.but h7 b8
    replace b8 := b7.trans b8
    refine one_if (nm := "Unseen") (n := 8) (.own _) T E8 (O.ko q hq "Unseen" (by decide +kernel)) h8 l8 (by decide) fun H9 b9 h9 l9 => ?_
    have E9 := E8.but h8 b9
    replace b9 := b8.trans b9
    exact ⟨.ref r, rfl, k _ r (fun a o h => b9 a o (ne_of_none h nr) h) nr h9⟩
def six (q : Str × Str × Str) : List Str := ((((([] ++ ifN (decide (("BandError" : Str) = q.1 ∨ ("BandError" : Str) = q.2.1)) "BandError") ++ ifN (decide (("Missing" : Str) = q.1 ∨ ("Missing" : Str) = q.2.1)) "Missing") ++ ifN (decide (("Refused" : Str) = q.1 ∨ ("Refused" : Str) = q.2.1)) "Refused")
  ++ ifN (decide (PySem.Str.ofString "ValueError" = q.2.2)) "ValueError") ++ ifN (decide (PySem.Str.ofString "LookupError" = q.2.2)) "LookupError") ++ ifN (decide (PySem.Str.ofString "RuntimeError" = q.2.2)) "RuntimeError"
theorem known_list : ∀ q ∈ errs3, ((six q ++ onesOf q nFirstOnes) ++ onesOf q nMiddleOnes) ++ onesOf q nLastOnes = [q.2.1, q.2.2, q.1] := by decide +kernel
abbrev sKnown : Stmt := topS 46
theorem scKnown : FnScope ["_law_error", "_law_found"] ["_law_error"] (defScope sKnown) := ⟨rfl, rfl, rfl, by decide +kernel, rfl, by decide +kernel, by decide +kernel⟩
def nKnown : List Str := ["BandError", "Missing", "Refused", "ValueError", "LookupError", "RuntimeError"]
theorem ok_Known (D : DefT K mg "_law_known" sKnown) (B : Bl mg) (O : Owns K mg) (C_law_first_ones : COnes P w K mg base "_law_first_ones" nFirstOnes) (C_law_middle_ones : COnes P w K mg base "_law_middle_ones" nMiddleOnes) (C_law_last_ones : COnes P w K mg base "_law_last_ones" nLastOnes) : Call1 P w K mg base "_law_known" 2 ["_law_error"] (spKnown K) := by
  have g_BandError := O.g "BandError" (by decide +kernel)
  have g_Missing := O.g "Missing" (by decide +kernel)
  have g_Refused := O.g "Refused" (by decide +kernel)
  refine D.call scKnown (fun vs H Q E h => ?_) (fun _ _ _ _ _ _ us hl => match us, hl with | [_], _ => rfl) (fun f cdv A outer s H vs Q E hr h => ?_)
  · obtain ⟨e, q, fs, rfl, _⟩ := h
    rfl
  · refine ⟨_, (pss_cons (ps_set (i := 1) scKnown.nd rfl (.inl rfl) (pe_lst pa_nil))
 (C8.pss_cut (ps_if (pt_val (pe_callB call_isX (by rfl) B.isinstance boot_isinstance (pa_cons (pv 0) (pa_cons (pe_glob (v := .ref _) (by rfl) g_BandError rfl) pa_nil))) (fun _ => rfl))
 (pss_one (ps_expr (pe_bm PySem.F.plainAttrs_list PySem.F.slot_list_append PySem.F.type_list_append mt_append (pv 1) (pa_cons pe_str pa_nil))))
 pss_nil)
 (C8.pss_cut (ps_if (pt_val (pe_callB call_isX (by rfl) B.isinstance boot_isinstance (pa_cons (pv 0) (pa_cons (pe_glob (v := .ref _) (by rfl) g_Missing rfl) pa_nil))) (fun _ => rfl))
 (pss_one (ps_expr (pe_bm PySem.F.plainAttrs_list PySem.F.slot_list_append PySem.F.type_list_append mt_append (pv 1) (pa_cons pe_str pa_nil))))
 pss_nil)
 (C8.pss_cut (ps_if (pt_val (pe_callB call_isX (by rfl) B.isinstance boot_isinstance (pa_cons (pv 0) (pa_cons (pe_glob (v := .ref _) (by rfl) g_Refused rfl) pa_nil))) (fun _ => rfl))
 (pss_one (ps_expr (pe_bm PySem.F.plainAttrs_list PySem.F.slot_list_append PySem.F.type_list_append mt_append (pv 1) (pa_cons pe_str pa_nil))))
 pss_nil)
 (C8.pss_cut (ps_if (pt_val (pe_callB call_isX (by rfl) B.isinstance boot_isinstance (pa_cons (pv 0) (pa_cons (pe_bltn (v := .ty "ValueError") (by rfl) B.ValueError boot_ValueError rfl) pa_nil))) (fun _ => rfl))
 (pss_one (ps_expr (pe_bm PySem.F.plainAttrs_list PySem.F.slot_list_append PySem.F.type_list_append mt_append (pv 1) (pa_cons pe_str pa_nil))))
 pss_nil)
 (C8.pss_cut (ps_if (pt_val (pe_callB call_isX (by rfl) B.isinstance boot_isinstance (pa_cons (pv 0) (pa_cons (pe_bltn (v := .ty "LookupError") (by rfl) B.LookupError boot_LookupError rfl) pa_nil))) (fun _ => rfl))
 (pss_one (ps_expr (pe_bm PySem.F.plainAttrs_list PySem.F.slot_list_append PySem.F.type_list_append mt_append (pv 1) (pa_cons pe_str pa_nil))))
 pss_nil)
 (C8.pss_cut (ps_if (pt_val (pe_callB call_isX (by rfl) B.isinstance boot_isinstance (pa_cons (pv 0) (pa_cons (pe_bltn (v := .ty "RuntimeError") (by rfl) B.RuntimeError boot_RuntimeError rfl) pa_nil))) (fun _ => rfl))
 (pss_one (ps_expr (pe_bm PySem.F.plainAttrs_list PySem.F.slot_list_append PySem.F.type_list_append mt_append (pv 1) (pa_cons pe_str pa_nil))))
 pss_nil)
 (pss_one (ps_ret (pe_op op_cat (pe_op op_cat (pe_op op_cat (pv 1) (pe_callD C_law_first_ones hr (by omega) (by rfl) (pa_cons (pv 0) pa_nil))) (pe_callD C_law_middle_ones hr (by omega) (by rfl) (pa_cons (pv 0) pa_nil))) (pe_callD C_law_last_ones hr (by omega) (by rfl) (pa_cons (pv 0) pa_nil)))))))))))), ?_⟩
    obtain ⟨e, q, fs, rfl, hq, T, er, k⟩ := h
    refine ⟨Nat.zero_le _, fun r nr => ?_⟩
    have h0 : (upd H r (.lst [])) r = some (.lst (([] : List Str).map V.str)) := upd_same
    have l0 : ([] : List Str).length ≤ 0 := Nat.le_refl _
    have s0 : Same H (upd H r (.lst [])) := same_new nr
    have b0 : ButR r H (upd H r (.lst [])) := ButR.of s0
    have E0 := er.same s0
    generalize upd H r (.lst []) = H0 at h0 b0 E0 ⊢
    refine one_if (nm := "BandError") (n := 0) (.own _) T E0 (O.ko q hq "BandError" (by decide +kernel)) h0 l0 (by decide) fun H1 b1 h1 l1 => ?_
    have E1 := E0.but h0 b1
    replace b1 := b0.trans b1
    refine one_if (nm := "Missing") (n := 1) (.own _) T E1 (O.ko q hq "Missing" (by decide +kernel)) h1 l1 (by decide) fun H2 b2 h2 l2 => ?_
    have E2 := E1.but h1 b2
    replace b2 := b1.trans b2
    refine one_if (nm := "Refused") (n := 2) (.own _) T E2 (O.ko q hq "Refused" (by decide +kernel)) h2 l2 (by decide) fun H3 b3 h3 l3 => ?_
    have E3 := E2.but h2 b3
    replace b3 := b2.trans b3
    refine one_if (nm := "ValueError") (n := 3) (.ty _) T E3 (O.kt q hq "ValueError" (by decide +kernel)) h3 l3 (by decide) fun H4 b4 h4 l4 => ?_
    have E4 := E3.but h3 b4
    replace b4 := b3.trans b4
    refine one_if (nm := "LookupError") (n := 4) (.ty _) T E4 (O.kt q hq "LookupError" (by decide +kernel)) h4 l4 (by decide) fun H5 b5 h5 l5 => ?_
    have E5 := E4.but h4 b5
    replace b5 := b4.trans b5
    refine one_if (nm := "RuntimeError") (n := 5) (.ty _) T E5 (O.kt q hq "RuntimeError" (by decide +kernel)) h5 l5 (by decide) fun H6 b6 h6 l6 => ?_
    have E6 := E5.but h5 b6
    replace b6 := b5.trans b6
    have h6' : H6 r = some (.lst ((six q).map V.str)) := h6
    have l6' : (six q).length ≤ 6 := l6
    have sm : Same H H6 := fun a o h => b6 a o (ne_of_none h nr) h
    refine ⟨.ref r, rfl, .ref e, rfl, e, q, fs, rfl, hq, T, E6, fun H7 p1 s7 n1 h7 => ⟨r, p1, _, _, rfl, rfl, s7 _ _ h6', h7, add_len l6' (ones_len q nFirstOnes) (by decide), fun p2 n2 => ?_⟩⟩
    rw [← List.map_append]
    have s8 := same_new (o := .lst ((six q ++ onesOf q nFirstOnes).map V.str)) n2
    refine ⟨.ref e, rfl, e, q, fs, rfl, hq, T, (E6.same s7).same s8, fun H8 p3 s9 n3 h8 => ⟨p2, p3, _, _, rfl, rfl, s9 _ _ upd_same, h8, add_len (app_len l6' (ones_len q nFirstOnes)) (ones_len q nMiddleOnes) (by decide), fun p4 n4 => ?_⟩⟩
    rw [← List.map_append]
    have s10 := same_new (o := .lst (((six q ++ onesOf q nFirstOnes) ++ onesOf q nMiddleOnes).map V.str)) n4
    refine ⟨.ref e, rfl, e, q, fs, rfl, hq, T, (((E6.same s7).same s8).same s9).same s10, fun H9 p5 s11 n5 h9 => ⟨p4, p5, _, _, rfl, rfl, s11 _ _ upd_same, h9, add_len (app_len (app_len l6' (ones_len q nFirstOnes)) (ones_len q nMiddleOnes)) (ones_len q nLastOnes) (by decide), fun p6 n6 => ?_⟩⟩
    rw [← List.map_append]
    have s12 := same_new (o := .lst ((((six q ++ onesOf q nFirstOnes) ++ onesOf q nMiddleOnes) ++ onesOf q nLastOnes).map V.str)) n6
    refine k _ p6 (sm.trans (s7.trans (s8.trans (s9.trans (s10.trans (s11.trans s12)))))) (Same.free (sm.trans (s7.trans (s8.trans (s9.trans (s10.trans s11))))) n6) ?_
    rw [upd_same]
    exact congrArg (fun l => some (HO.lst (l.map V.str))) (known_list q hq)
end
end K70
set_option maxRecDepth 100000
set_option maxHeartbeats 4000000
namespace K70
open PySem PySem.Spec PyProof.Rows L2
abbrev sRowsSo : Stmt := topS 57
theorem scRowsSo : FnScope ["_law_rows", "_law_x", "_law_y", "_law_above", "_law_label", "_law_base", "_law_made", "_law_told", "_law_error", "_law_got"] ["_law_rows", "_law_x", "_law_y"] (defScope sRowsSo) := ⟨rfl, rfl, rfl, by decide +kernel, rfl, by decide +kernel, by decide +kernel⟩
/-! ### sorted lists of three -/
theorem perm2 {l : List Str} {a b : Str} (h : l.Perm [a, b]) : l = [a, b] ∨ l = [b, a] := by
  cases l with
  | nil => exact nomatch h.length_eq
  | cons x r =>
    have hx := h.subset (List.mem_cons_self)
    simp only [List.mem_cons, List.not_mem_nil, or_false] at hx
    rcases hx with rfl | rfl
    · rw [List.perm_singleton.mp h.cons_inv]
      exact .inl rfl
    · rw [List.perm_singleton.mp (h.trans (List.Perm.swap _ _ _)).cons_inv]
      exact .inr rfl
theorem perm3 {l : List Str} {a b c : Str} (h : l.Perm [a, b, c]) : l ∈ [[a, b, c], [a, c, b], [b, a, c], [b, c, a], [c, a, b], [c, b, a]] := by
  cases l with
  | nil => exact nomatch h.length_eq
  | cons x r =>
    have hx := h.subset (List.mem_cons_self)
    simp only [List.mem_cons, List.not_mem_nil, or_false] at hx
    rcases hx with rfl | rfl | rfl
    · rcases perm2 h.cons_inv with rfl | rfl <;> simp
    · rcases perm2 (h.trans (List.Perm.swap _ _ _)).cons_inv with rfl | rfl <;> simp
    · rcases perm2 ((h.trans (List.Perm.cons _ (List.Perm.swap _ _ _))).trans (List.Perm.swap _ _ _)).cons_inv with rfl | rfl <;> simp
def perms (a b c : Str) : List (List Str) := [[a, b, c], [a, c, b], [b, a, c], [b, c, a], [c, a, b], [c, b, a]]
theorem sort_uniq : ∀ q ∈ errs3, ∀ l ∈ perms q.2.1 q.2.2 q.1, ∀ m ∈ perms q.1 q.2.1 q.2.2, sortedS l = true → sortedS m = true → l = m := by decide +kernel
def above : List (Key × V) := [(.inr "BandError", .str "ValueError"), (.inr "Missing", .str "LookupError"), (.inr "Refused", .str "RuntimeError")]
theorem above_at : ∀ q ∈ errs3, valV (mergeK [] above) (.inr q.2.1) = some (.str q.2.2) := by decide +kernel
/-! ### rows as they are read -/
structure RowG (K : PySem.W.Frag) (x y : V) (H : Hp) (q : Str × Str × Str) (p m t : Addr) (es qs : List Addr) : Prop where
  hq : q ∈ errs3
  hp : H p = some (.lst [.str q.1, .str q.2.1, .ref m, .ref t])
  hm : H m = some (.lst (es.map V.ref))
  ht : H t = some (.lst (qs.map V.ref))
  hl : es.length = qs.length
  h2 : es.length ≤ 2
  he : ∀ e ∈ es, ∃ fs, Err H e (He.ga K q.1) fs
  hg : ∀ g ∈ qs, ∃ vs, H g = some (.lst vs) ∧ vs.length ≤ 2 ∧ vs = [x, y].take vs.length
theorem RowG.same {K : PySem.W.Frag} {x y : V} {H H' : Hp} {q : Str × Str × Str} {p m t : Addr} {es qs : List Addr} (s : Same H H') (R : RowG K x y H q p m t es qs) : RowG K x y H' q p m t es qs :=
  ⟨R.hq, s _ _ R.hp, s _ _ R.hm, s _ _ R.ht, R.hl, R.h2, fun e h => (R.he e h).imp fun _ z => z.same s, fun g h => (R.hg g h).imp fun _ z => ⟨s _ _ z.1, z.2⟩⟩
def RowF (K : PySem.W.Frag) (x y : V) (H : Hp) (v : V) : Prop := ∃ q p m t es qs, v = .ref p ∧ RowG K x y H q p m t es qs
theorem RowF.same {K : PySem.W.Frag} {x y : V} {H H' : Hp} {v : V} (s : Same H H') (R : RowF K x y H v) : RowF K x y H' v := by
  obtain ⟨q, p, m, t, es, qs, e, z⟩ := R
  exact ⟨q, p, m, t, es, qs, e, z.same s⟩
theorem RowsOk.rowF {K : PySem.W.Frag} {x y : V} {r : Addr} {H : Hp} : ∀ {L : List (Str × Str × Addr)} {vs : List V}, (∀ q ∈ L, (∃ q3 ∈ errs3, q.1 = q3.1 ∧ q.2.1 = q3.2.1) ∧ q.2.2 = He.ga K q.1) → RowsOk x y r H L vs → ∀ v ∈ vs, RowF K x y H v
  | [], [], _, _, _, hv => nomatch hv
  | q :: L, v :: vs, hL, h, u, hu => by
    rcases List.mem_cons.mp hu with rfl | hu
    · obtain ⟨⟨q3, hq3, e1, e2⟩, e3⟩ := hL q (List.mem_cons_self)
      obtain ⟨p, m, t, es, qs, e, n1, h1, n2, h2, n3, h3, l, l2, he, hq⟩ := h.1.ex
      rw [e1, e2] at h1
      rw [e3, e1] at he
      exact ⟨q3, p, m, t, es, qs, e, hq3, h1, h2, h3, l, l2, he, fun g hg => (hq g hg).2⟩
    · exact RowsOk.rowF (fun q hq => hL q (List.mem_cons_of_mem _ hq)) h.2 u hu
  | [], _ :: _, _, h, _, _ => h.elim
  | _ :: _, [], _, h, _, _ => h.elim
theorem eqv_strs {H : Hp} {a c : Addr} {d : Nat} {l : List Str} (hl : l.length ≤ 100) (ha : H a = some (.lst (l.map V.str))) (hc : H c = some (.lst (l.map V.str))) : Eqv H (d + 1) (.ref a) (.ref c) := by
  refine .inr ⟨a, c, _, _, rfl, rfl, .inl ⟨ha, hc⟩, rfl, by rw [List.length_map]; exact hl, fun i x y hx hy => ?_⟩
  rw [hx] at hy
  cases hy
  obtain ⟨z, _, rfl⟩ := List.mem_map.mp (List.mem_of_getElem? hx)
  exact Eqv.flat rfl
theorem eqv_take {H : Hp} {a c : Addr} {d : Nat} {x y : V} {vs : List V} (hx : Eqv H d x x) (hy : Eqv H d y y) (hv : vs = [x, y].take vs.length) (h2 : vs.length ≤ 2) (ha : H a = some (.lst vs)) (hc : H c = some (.lst vs)) : Eqv H (d + 1) (.ref a) (.ref c) := by
  refine .inr ⟨a, c, _, _, rfl, rfl, .inl ⟨ha, hc⟩, rfl, (by omega), fun i x' y' hx' hy' => ?_⟩
  rw [hx'] at hy'
  cases hy'
  have hm := List.mem_of_getElem? hx'
  rw [hv] at hm
  have hm := List.mem_of_mem_take hm
  simp only [List.mem_cons, List.not_mem_nil, or_false] at hm
  rcases hm with rfl | rfl
  · exact hx
  · exact hy
theorem cut_take {x y : V} {n : Nat} (h : n ≤ 2) : cutV [x, y] none (some (n : Int)) = [x, y].take n := by
  unfold cutV
  rw [HT.sIx_none, HT.sIx_nat]
  show ([x, y].drop 0).take (min n 2 - 0) = _
  rw [List.drop_zero, Nat.sub_zero, Nat.min_eq_left h]
def spRows (K : PySem.W.Frag) : Sp := fun vs H Q _ => ∃ r x y rows, vs = [.ref r, x, y] ∧ H r = some (.lst rows) ∧ rows.length ≤ 100 ∧ Eqv H 4 x x ∧ Eqv H 4 y y ∧ (∀ v ∈ rows, RowF K x y H v) ∧ ∀ H', Same H H' → Q (.bl true) H'
section
variable {P : Program} {w : World} {K : PySem.W.Frag} {mg : Str → Option Value} {base : Heap}
abbrev CKnown (P : Program) (w : World) (K : PySem.W.Frag) (mg : Str → Option Value) (base : Heap) : Prop := Call1 P w K mg base "_law_known" 2 ["_law_error"] (spKnown K)
theorem ok_RowsSo (D : DefT K mg "_law_rows_so" sRowsSo) (B : Bl mg) (O : Owns K mg) (C_law_known : CKnown P w K mg base) (C_law_like : CLike P w K mg base 5) : Call1 P w K mg base "_law_rows_so" 7 ["_law_rows", "_law_x", "_law_y"] (spRows K) := by
  refine D.call scRowsSo (fun vs H Q E h => ?_) (fun _ _ _ _ _ _ us hl => match us, hl with | [_, _, _], _ => rfl) (fun f cdv A outer s H vs Q E hr h => ?_)
  · obtain ⟨r, x, y, rows, rfl, _⟩ := h
    rfl
  · refine ⟨_, (pss_cons (ps_set (i := 3) scRowsSo.nd rfl (.inl rfl) (pe_disp (pps_cons pe_str pe_str (pps_cons pe_str pe_str (pps_cons pe_str pe_str pps_nil))) rfl rfl (List.cons_ne_nil _ _) (by decide)))
 (pss_cons (ps_for PassesOwn.never rfl (pi_list (pv 0)) (pg_lst (n := 4) rfl (pgs_cons (pg_name (i := 4) scRowsSo.nd rfl (.inl rfl)) (pgs_cons (pg_name (i := 5) scRowsSo.nd rfl (.inl rfl)) (pgs_cons (pg_name (i := 6) scRowsSo.nd rfl (.inl rfl)) (pgs_cons (pg_name (i := 7) scRowsSo.nd rfl (.inl rfl)) pgs_nil)))))
 (pss_one (ps_for PassesOwn.never rfl (pi_zip (by rfl) B.zip (pa_cons (pv 6) (pa_cons (pv 7) pa_nil))) (pg_tup (n := 2) rfl (pgs_cons (pg_name (i := 8) scRowsSo.nd rfl (.inl rfl)) (pgs_cons (pg_name (i := 9) scRowsSo.nd rfl (.inl rfl)) pgs_nil)))
 (pss_cons (ps_if (pt_not (pt_val (pe_callD C_law_like hr (by omega) (by rfl) (pa_cons (pe_callB cr_sortedS (by rfl) B.sorted boot_sorted (pa_cons (pe_callD C_law_known hr (by omega) (by rfl) (pa_cons (pv 8) pa_nil)) pa_nil)) (pa_cons (pe_callB cr_sortedS (by rfl) B.sorted boot_sorted (pa_cons (pe_lst (pa_cons (pv 4) (pa_cons (pv 5) (pa_cons (pe_dget (hu_of hr) (pv 3) (pv 5) (fun _ _ => rfl)) pa_nil)))) pa_nil)) pa_nil))) (fun _ => rfl)))
 (pss_one (ps_ret pe_bl))
 pss_nil)
 (pss_one (ps_if (pt_not (pt_val (pe_callD C_law_like hr (by omega) (by rfl) (pa_cons (pv 9) (pa_cons (pe_slice sl_list (pe_lst (pa_cons (pv 1) (pa_cons (pv 2) pa_nil))) po_none (po_some (pe_callB call_len_seq (by rfl) B.len boot_len (pa_cons (pv 9) pa_nil)))) pa_nil))) (fun _ => rfl)))
 (pss_one (ps_ret pe_bl))
 pss_nil))))))
 (pss_one (ps_ret pe_bl)))), ?_⟩
    obtain ⟨r, x, y, rows, rfl, hr0, hlr, ex, ey, hR, k⟩ := h
    refine fun D nD => ⟨upd_same, above, rfl, (by decide), ?_⟩
    have s0 : Same H (upd (upd H D (.dK [])) D (.dK (mergeK [] above))) := fun a o h => by
      rw [upd_ne (ne_of_none h nD), upd_ne (ne_of_none h nD)]
      exact h
    have hD : (upd (upd H D (.dK [])) D (.dK (mergeK [] above))) D = some (.dK (mergeK [] above)) := upd_same
    generalize upd (upd H D (.dK [])) D (.dK (mergeK [] above)) = H0 at s0 hD ⊢
    have sr := s0 _ _ hr0
    refine ⟨.ref r, rfl, r, rfl, ⟨_, .inl (.inl sr)⟩, fun i m σ H' => i + m = rows.length ∧ Same H0 H' ∧ ∃ z4 z5 z6 z7 z8 z9, σ = [some (.ref r), some x, some y, some (.ref D), z4, z5, z6, z7, z8, z9], ⟨rows.length, by omega, Same.refl _, none, none, none, none, none, none, rfl⟩, fun i m σ H1 hW => ?_⟩
    obtain ⟨em, s1, z4, z5, z6, z7, z8, z9, rfl⟩ := hW
    have sr1 := s1 _ _ sr
    by_cases hi : i < rows.length
    · refine .inr ⟨⟨_, rows[i], .inl (.inl sr1), List.getElem?_eq_getElem hi⟩, fun σ H' => Same H0 H' ∧ ∃ z4 z5 z6 z7 z8 z9, σ = [some (.ref r), some x, some y, some (.ref D), z4, z5, z6, z7, z8, z9], fun σ' H' h => ⟨m - 1, by omega, by omega, h⟩, fun v H2 hv => ?_⟩
      obtain ⟨rfl, hv⟩ := hv
      have hv := hv _ (.inl (.inl sr1))
      rw [List.getElem?_eq_getElem hi] at hv
      obtain ⟨q, p, mm, t, es, qs, ev, R⟩ := (hR _ (List.getElem_mem hi)).same (s0.trans s1)
      rw [ev] at hv
      cases hv
      refine ⟨p, _, rfl, .inl (.inl R.hp), rfl, _, _, rfl, _, _, rfl, _, _, rfl, _, _, rfl, rfl, ?_⟩
      refine ⟨.ref mm, rfl, .ref t, rfl, mm, t, _, _, rfl, .inl (.inl R.hm), .inl (.inl R.ht), fun i m σ H' => i + m = es.length ∧ Same H2 H' ∧ ∃ z8 z9, σ = [some (.ref r), some x, some y, some (.ref D), some (.str q.1), some (.str q.2.1), some (.ref mm), some (.ref t), z8, z9], ⟨es.length, by omega, Same.refl _, z8, z9, rfl⟩, fun j mj σ H3 hW => ?_⟩
      obtain ⟨emj, s3, y8, y9, rfl⟩ := hW
      have R3 := R.same s3
      by_cases hj : j < es.length
      · have hj2 : j < qs.length := R.hl ▸ hj
        have g1 : (es.map V.ref)[j]? = some (.ref es[j]) := by rw [List.getElem?_map, List.getElem?_eq_getElem hj]; rfl
        have g2 : (qs.map V.ref)[j]? = some (.ref qs[j]) := by rw [List.getElem?_map, List.getElem?_eq_getElem hj2]; rfl
        refine .inr ⟨⟨_, _, _, _, .inl (.inl R3.hm), .inl (.inl R3.ht), g1, g2⟩, fun σ H' => Same H2 H' ∧ ∃ z8 z9, σ = [some (.ref r), some x, some y, some (.ref D), some (.str q.1), some (.str q.2.1), some (.ref mm), some (.ref t), z8, z9], fun σ' H' h => ⟨mj - 1, by omega, by omega, h⟩, fun v H4 hv => ?_⟩
        obtain ⟨T, x2, y2, rfl, nT, e4, f1, f2⟩ := hv
        have ex2 : x2 = .ref es[j] := Option.some.inj ((f1 _ (.inl (.inl R3.hm))).symm.trans g1)
        have ey2 : y2 = .ref qs[j] := Option.some.inj ((f2 _ (.inl (.inl R3.ht))).symm.trans g2)
        subst ex2 ey2
        obtain ⟨fs, Er⟩ := R3.he _ (List.getElem_mem hj)
        obtain ⟨vs, hg, hv2, hvs⟩ := R3.hg _ (List.getElem_mem hj2)
        have s34 : Same H3 H4 := by rw [e4]; exact same_new nT
        have hT4 : H4 T = some (.tup [.ref es[j], .ref qs[j]]) := by rw [e4, upd_same]
        refine ⟨T, _, rfl, .inl (.inl hT4), rfl, _, _, rfl, _, _, rfl, rfl, ?_⟩
        refine ⟨_, rfl, es[j], q, fs, rfl, R.hq, O.xc q R.hq, Er.same s34, fun H5 p1 s5 n1 h1 => ?_⟩
        refine ⟨p1, _, rfl, .inl (.inl h1), (by show 3 < 64; decide), fun ys p2 pm ps n2 => ?_⟩
        have s6 := same_new (o := .lst (ys.map V.str)) n2
        have s46 := s5.trans s6
        have s06 := s1.trans (s3.trans (s34.trans s46))
        refine ⟨_, rfl, _, rfl, _, rfl, _, rfl, D, .str q.2.2, rfl, ?_, ?_⟩
        · have := DGet.k (k := .inr q.2.1) (s06 _ _ hD)
          rw [above_at q R.hq] at this
          exact this
        refine ⟨(by show 3 ≤ sizeLine; decide), fun p3 n3 => ?_⟩
        have s7 := same_new (o := .lst (([q.1, q.2.1, q.2.2] : List Str).map V.str)) n3
        refine ⟨p3, [q.1, q.2.1, q.2.2], rfl, .inl (.inl upd_same), (by show 3 < 64; decide), fun zs p4 pm4 ps4 n4 => ?_⟩
        have s8 := same_new (o := .lst (zs.map V.str)) n4
        have eyz : ys = zs := sort_uniq q R.hq _ (perm3 pm) _ (perm3 pm4) ps ps4
        subst eyz
        refine ⟨.ref p2, .ref p4, rfl, eqv_strs (l := ys) (by rw [pm.length_eq]; show 3 ≤ 100; decide) (s8 _ _ (s7 _ _ upd_same)) upd_same, fun H9 s9 => ?_⟩
        have s69 := s7.trans (s8.trans s9)
        have s49 := s46.trans s69
        refine ⟨true, rfl, iteF ?_⟩
        have hg9 := s49 _ _ (s34 _ _ hg)
        refine ⟨_, rfl, _, rfl, _, rfl, (by show 2 ≤ sizeLine; decide), fun p5 n5 => ?_⟩
        have s10 := same_new (o := .lst [x, y]) n5
        have hg10 := s10 _ _ hg9
        refine ⟨_, rfl, qs[j], vs, rfl, .inl (.inl (.inl hg10)), vs.length, rfl, p5, [x, y], rfl, .inl (.inl upd_same), fun p6 n6 => ?_⟩
        rw [cut_take hv2, ← hvs]
        have s11 := same_new (o := .lst vs) n6
        have s011 := s06.trans (s69.trans (s10.trans s11))
        refine ⟨.ref qs[j], .ref p6, rfl, eqv_take (ex.same (s0.trans s011)) (ey.same (s0.trans s011)) hvs hv2 (s11 _ _ hg10) upd_same, fun H12 s12 => ?_⟩
        refine ⟨true, rfl, iteF ?_⟩
        exact ⟨s3.trans (s34.trans (s49.trans (s10.trans (s11.trans s12)))), _, _, rfl⟩
      · have ej : j = es.length := by omega
        refine .inl ⟨⟨_, _, .inl (.inl R3.hm), .inl (.inl R3.ht), .inl (by rw [List.length_map]; omega)⟩, ?_⟩
        exact ⟨s1.trans s3, _, _, _, _, _, _, rfl⟩
    · have ei : i = rows.length := by omega
      subst ei
      refine .inl ⟨⟨_, .inl (.inl sr1), Nat.le_refl _⟩, ?_⟩
      exact k _ (s0.trans s1)
end
end K70
set_option maxRecDepth 100000
set_option maxHeartbeats 4000000
/-! several except clauses with a name: what is caught is tracked; own errors are raised -/
namespace K70
open PySem PySem.Spec PyProof.Rows L2
def xc (a : Addr) (cls : Value) (d : Option Addr) : HO := .ext fun h => ∃ (oe : Obj) (vs : Array Value), h.get? a = some oe ∧ oe.cls = cls ∧ oe.dict = d ∧ oe.data = .fields vs
section
variable {X : Cx} {pins : List (Addr × Obj)} {σ : L2.St} {H : Hp} {s : Shared}
/-- an object that nobody tells is told from now on -/
theorem inv_track {a : Addr} {cls : Value} {d : Option Addr} {oe : Obj} {vs : Array Value} (I : Inv X pins σ H s) (ha : s.heap.get? a = some oe) (hz : Zc cls d oe) (hd : oe.data = .fields vs) (na : H a = none) (n0 : X.s_0.heap.get? a = none)
    (nL : a ≠ X.env.locals) (np : ∀ p ∈ X.pn ++ pins, p.1 ≠ a) : Inv X pins σ (upd H a (xc a cls d)) s := by
  have old : ∀ {b : Addr} {o : Obj}, X.s_0.heap.get? b = some o → b ≠ a := fun {b o} e z => by
    rw [z, n0] at e
    cases e
  have kept : ∀ {b : Addr} {u : HO}, H b = some u → upd H a (xc a cls d) b = some u := fun {b u} e => by
    rw [upd_ne (ne_of_none e na)]
    exact e
  refine ⟨I.ok, I.os, I.bare, ⟨I.base.keep, I.base.slot, fun b o e n hx => ?_, I.base.there, fun b xs e => kept (I.base.tups b xs e), fun b o u e => kept (I.base.frzs b o u e), fun b ps e => ?_⟩, I.loc, I.cell, ?_, fun y c e => ?_, fun p hp => ?_, fun b u e => ?_, I.len⟩
  · rw [upd_ne (old e)]
    exact I.base.free b o e n hx
  · obtain ⟨m, z⟩ := I.base.tbls b ps e
    exact ⟨m, kept z⟩
  · rw [upd_ne (Ne.symm nL)]
    exact I.free
  · have nc : c ≠ a := fun z => by
      obtain ⟨v, o, ho, hdo⟩ := I.cell y c e
      rw [z, ha] at ho
      cases ho
      rw [hd] at hdo
      cases hdo
    rw [upd_ne nc]
    exact I.freeC y c e
  · obtain ⟨e1, e2, e3⟩ := I.pin p hp
    exact ⟨e1, by rw [upd_ne (np p hp)]; exact e2, e3⟩
  · by_cases hb : b = a
    · subst hb
      rw [upd_same] at e
      cases e
      exact ⟨⟨oe, vs, ha, hz.1, hz.2, hd⟩, ⟨oe, ha⟩, fun h1 h2 ⟨o2, v2, q, r⟩ k => ⟨o2, v2, k _ q, r⟩⟩
    · rw [upd_ne hb] at e
      exact (I.hok b u e).stay (fun _ _ _ q => q) (fun _ q => kept q) fun _ _ q => kept q
end
/-- what the clauses wish of an exception of the body, one after the other; slot i is the name's -/
def wMA (K : PySem.W.Frag) (Wout : WX) (i : Nat) (D : Ends) : List (Value × TS) → WX
  | [] => Wout
  | (c, ts) :: r => fun cls d σ H => ∃ b, PySem.W.exmOne K cls c = some b ∧ (b = true → ∀ a, H a = none → ts { nx := fun σ' H' => D.nx (σ'.set i none) H', rt := D.rt, bk := fun σ' H' => D.bk (σ'.set i none) H', ct := fun σ' H' => D.ct (σ'.set i none) H' } (σ.set i (some (.ref a))) (upd H a (xc a cls d))) ∧
    (b = false → wMA K Wout i D r cls d σ H)
inductive HdsAs (X : Cx) (n : Str) : List ExceptHandler → List (Value × TS) → Prop
  | nil : HdsAs X n [] []
  | cons {x : Str} {c : Value} {ts : TS} {b₀ : Stmt} {suite : List Stmt} {np pos' : Pos} {hds : List ExceptHandler} {l : List (Value × TS)} (hc : Names X x c) (hsu : ∀ (a : Addr) (pn : List (Addr × Obj)), PSs (X.suite a pn) (b₀ :: suite) ts)
      (r : HdsAs X n hds l) : HdsAs X n (.ExceptHandler (some (.Name x np)) (some n) (b₀ :: suite) pos' :: hds) ((c, ts) :: l)
section
variable {X : Cx} {n : Str} {i : Nat} {body : List Stmt} {h₀ : ExceptHandler} {hds : List ExceptHandler} {l : List (Value × TS)} {pos : Pos} {tb : WX → TS} {Wout : WX}
theorem ps_try_mas (hs : X.stack = X.env :: X.outer) (hf : X.env.frame = some X.env.locals) (hex : X.ex = []) (hN : X.N.Nodup) (hi : X.N[i]? = some n) (hln : X.env.kindOf n = some .local) (tk : Takes X Wout)
    (hb : ∀ (W : WX) (pn : List (Addr × Obj)) (xe : Value → Shared → Prop), Takes (X.tr pn xe) W → PassesOwn (model X.prog X.w) X.A X.env xe → PSs (X.tr pn xe) body (tb W))
    (hh : HdsAs X n (h₀ :: hds) l) : PS X (.Try body (h₀ :: hds) [] [] pos) (fun D σ H => tb (wMA X.K Wout i D l) D σ H) := by
  refine ⟨fun pins s σ H D I h => ?_⟩
  have ok := I.ok
  have hfr : X.A.frames = some (X.env :: X.outer) := by rw [ok.frames, hs]
  have hloc : Loc X.env.scope n := .inl hln
  refine wpAny_Try_except ?_
  refine wpAny_mono ((hb (wMA X.K Wout i D l) (X.pn ++ pins) (fun e s₁ => wpAny (model X.prog X.w) X.A (noteFrame e X.env) (fun _ s₂ => wpAny (model X.prog X.w) X.A (setFlight e none) (fun _ s₃ =>
    wpAny (model X.prog X.w) X.A (handleBy e X.env (h₀ :: hds)) (SP X pins D) X.xe s₃) X.xe s₂) X.xe s₁) (fun u s' xx => ?_) PassesOwn.looking).run [] s σ H D (I.toTry _) h) (fun f s1 hsp => ?_) (fun e s1 he => he)
  · obtain ⟨a, B, sI, pins', σ', H', cls, d, rfl, J', nb, up, sky, na, os, ag, w⟩ := xx
    have J : Inv X pins σ' H' sI := J'.ofTry ok
    have sky' : Sky B (X.env :: X.outer) a (Zc cls d) X.env.locals s'.heap := by rw [← hs]; exact sky
    show wpAny (model X.prog X.w) X.A (noteFrame (.ref a) X.env) _ _ _
    refine Sky.land Zc.steady hfr hf sky' fun h3 fl3 up3 => ?_
    have J3 : Inv X pins σ' H' { s' with heap := h3 } := J.landed nb fl3.1 (up.trans up3) os ag
    obtain ⟨oe3, vs3, he3, hz3, hd3⟩ := fl3.there
    have notFr : ∀ {h : Heap} {o : Obj} {vs : Array Value}, h.FunFrames B (X.env :: X.outer) → h.get? a = some o → o.data = .fields vs → a ∉ frs (X.env :: X.outer) := fun {h o vs} ff e dd hm => by
      obtain ⟨_, o', e', hnf⟩ := ff.mem hm
      rw [e] at e'; cases e'
      exact hnf _ dd
    have nfr := notFr fl3.2.2.1 he3 hd3
    have nfr' : a ∉ frs X.stack := by rw [hs]; exact nfr
    have nL : a ≠ X.env.locals := fun z => nfr (List.mem_filterMap.mpr ⟨X.env, List.mem_cons_self, by rw [hf, z]⟩)
    have nF : a ∉ X.fs := fun hm => by
      obtain ⟨e, he, q⟩ := List.mem_filterMap.mp hm
      exact nfr (List.mem_filterMap.mpr ⟨e, List.mem_cons_of_mem _ he, q⟩)
    have nB : B.get? a = none := fl3.2.1
    have n0 : X.s_0.heap.get? a = none := by
      cases e : X.s_0.heap.get? a with
      | none => rfl
      | some o =>
        obtain ⟨o', q⟩ := J.base.there a o e (by rw [hex]; exact fun z => nomatch z)
        rw [nb a o' q nfr'] at nB
        cases nB
    have np : ∀ p ∈ X.pn ++ pins, p.1 ≠ a := fun p hp z => by
      obtain ⟨e1, e2, e3, e4, _⟩ := J.pin p hp
      rw [z] at e1 e3 e4
      rw [nb a p.2 e1 nfr'] at nB
      cases nB
    have S3 := J3.suite he3 hd3 na nL nF
    have go : ∀ {hds' : List ExceptHandler} {l' : List (Value × TS)}, HdsAs X n hds' l' → wMA X.K Wout i D l' cls d σ' H' →
        wpAny (model X.prog X.w) X.A (handleBy (.ref a) X.env hds') (SP X pins D) X.xe { s' with heap := h3 } := by
      intro hds' l' hk
      induction hk with
      | nil =>
        intro w
        refine wpAny_handleBy_nil ?_
        obtain ⟨k1, k2, k3, oe, vs, T, oT, ts', he, hz, hd, h1, hr⟩ := id fl3
        unfold PySem.passOn
        refine wpAny_bind (wpAny_field he hd h1 ?_)
        rw [if_neg (show ¬ ((Value.ref T == Value.none) = true) from by simp)]
        have fin : wpAny (model X.prog X.w) X.A (setFlight (.ref a) X.env.frame) (fun _ s4 => wpAny (model X.prog X.w) X.A (throw (.ref a) : Sem Flow) (SP X pins D) X.xe s4) X.xe { s' with heap := h3 } := by
          rw [hf]
          refine HandSPX.setFlight_upZ fl3 fun h4 hh4 up4 => wpAny_throw (tk _ _ ?_)
          exact ⟨a, B, sI, pins, σ', H', cls, d, rfl, J, nb, (up.trans up3).trans up4, .inr (.inr (by rw [hs]; exact hh4)), na, os, ag, w⟩
        first
          | exact wpAny_bind (wpAny_pure (wpAny_bind fin))
          | exact wpAny_bind fin
      | @cons x c ts b₀ suite npos pos' hds2 l2 hc hsu r ih =>
        intro w
        obtain ⟨b, hb1, hyes, hno⟩ := w
        refine wpAny_handleBy_cons (codeAny_handlers_test ?_) (by intro q; cases q)
        have LT : PySem.W.Looks (model X.prog X.w) h3 (typeOf (.ref a)) cls := fun A Q E s k q => wpAny_typeOf_ref (k _ _ he3) (by rw [hz3.1]; exact q)
        have LM := PySem.W.exm_one (M := model X.prog X.w) (J3.kIn) LT hb1
        have test : ∀ {Q : Value → Shared → Prop} {E : Value → Shared → Prop}, Q c { s' with heap := h3 } → wpAny (model X.prog X.w) (X.A.mark (some (.ref a))) (eval (.Name x npos) X.env) Q E { s' with heap := h3 } := fun {Q E} q => by
          obtain ⟨hg, hdbg, hm | ⟨hm, hv, hnn⟩⟩ := hc
          · exact ld_glob (X := X.suite a ((a, oe3) :: (X.pn ++ pins))) S3 hg hm q hdbg
          · exact ld_blt (X := X.suite a ((a, oe3) :: (X.pn ++ pins))) S3 hg hm hv q hnn hdbg
        refine test (LM.here ?_)
        cases b with
        | true =>
          refine codeAny_handlers_suite_as ?_
          refine HandSPX.lands_againZ fl3 fun h4 fl4 up4 => ?_
          have J4 : Inv X pins σ' H' { s' with heap := h4 } := J.landed nb fl4.1 ((up.trans up3).trans up4) os ag
          obtain ⟨oe4, vs4, he4, hz4, hd4⟩ := fl4.there
          have T4 : Inv X pins σ' (upd H' a (xc a cls d)) { s' with heap := h4 } := inv_track J4 he4 hz4 hd4 na n0 nL np
          have S4 : Inv (X.suite a (X.pn ++ pins)) [] σ' (upd H' a (xc a cls d)) { s' with heap := h4 } :=
            ⟨T4.ok.suite _ _, T4.os, T4.bare, T4.base, T4.loc, T4.cell, T4.free, T4.freeC, fun p hp => T4.pin p (by rw [List.append_nil] at hp; exact hp), T4.hok, T4.len⟩
          refine store_ok (X := X.suite a (X.pn ++ pins)) (v := .ref a) S4 hN hi hloc rfl (fun s5 S5 => ?_) (.inr hln)
          refine wpAny_mono ((hsu a (X.pn ++ pins)).run [] s5 _ _ _ S5 (hyes rfl a na)) (fun f s6 hsp => ?_) (fun _ _ z => False.elim z)
          have end_ : ∀ {σ6 : L2.St} {H6 : Hp} {Q : Shared → Prop}, Inv (X.suite a (X.pn ++ pins)) [] σ6 H6 s6 → (∀ s7, Inv X pins (σ6.set i none) H6 s7 → Q s7) →
              wpAny (model X.prog X.w) X.A (do bindName X.env n .none; unbindBehindTheSuite X.env n pos') (fun _ s7 => Q s7) X.xe s6 := fun {σ6 H6 Q} S6 hq =>
            gone_ok (X := X) ⟨ok, S6.os, S6.bare, S6.base, S6.loc, S6.cell, S6.free, S6.freeC, fun p hp => S6.pin p (List.mem_append_left _ hp), S6.hok, S6.len⟩ hN hi hln hq
          cases f with
          | next =>
            obtain ⟨σ6, H6, S6, q6⟩ := hsp
            exact end_ S6 fun s7 J7 => ⟨_, _, J7, q6⟩
          | brk =>
            obtain ⟨σ6, H6, S6, q6⟩ := hsp
            exact end_ S6 fun s7 J7 => ⟨_, _, J7, q6⟩
          | cont =>
            obtain ⟨σ6, H6, S6, q6⟩ := hsp
            exact end_ S6 fun s7 J7 => ⟨_, _, J7, q6⟩
          | ret u =>
            obtain ⟨v6, σ6, H6, S6, r6, q6⟩ := hsp
            exact end_ S6 fun s7 J7 => ⟨_, _, _, J7, r6, q6⟩
        | false =>
          show wpAny _ X.A (handleBy (.ref a) X.env hds2) _ _ _
          exact ih (hno rfl)
    exact go hh w
  · cases f with
    | next =>
      obtain ⟨σ', H', J', q⟩ := hsp
      exact wpAny_execs_nil ⟨σ', H', J'.ofTry ok, q⟩
    | brk =>
      obtain ⟨σ', H', J', q⟩ := hsp
      exact ⟨σ', H', J'.ofTry ok, q⟩
    | cont =>
      obtain ⟨σ', H', J', q⟩ := hsp
      exact ⟨σ', H', J'.ofTry ok, q⟩
    | ret u =>
      obtain ⟨v, σ', H', J', r, q⟩ := hsp
      exact ⟨v, σ', H', J'.ofTry ok, r, q⟩
end
/-- a wish may look at the number of slots -/
theorem takes_len {X : Cx} {W : WX} (t : Takes X W) : Takes X (fun c d σ H => σ.length = X.N.length → W c d σ H) := fun u s' ⟨a, B, sI, pins, σ, H, cls, d, e, I, nb, up, sky, na, os, ag, w⟩ =>
  t u s' ⟨a, B, sI, pins, σ, H, cls, d, e, I, nb, up, sky, na, os, ag, w I.len⟩
/-! ### an own error is raised -/
/-- C(e, ..), left as it is made -/
def tXmkE (C : Addr) (sp : Sp) (ta : TA) : TE := fun σ H Q => ta σ H fun vs H1 => vs.length ≤ 100 ∧ ∀ a, H1 a = none →
  sp (.ref a :: vs) (upd H1 a (exo a C none)) (fun v H2 => v = .non ∧ ∃ d, H2 a = some (exo a C d) ∧ Q (.ref a) H2) E0
section
variable {X : Cx} {x : Str} {C fI : Addr} {k : Nat} {fd : FuncData} {ps : List Str} {sp : Sp} {e : Expr} {es : List Expr} {ta : TA} {p pos : Pos}
theorem pe_xmkE (T : XC X.K C) (iC : PySem.W.findIn X.K (.ref C) "__init__" = some (some (.ref fI))) (tI : PySem.W.typeIn X.K (.ref fI) = some (.type "function")) (F1 : FnOk X.prog X.w X.K X.mg X.base CX0 k fI fd ps sp) (hr : Room (k + 1) X.A)
    (hb : Binds X.K fd ps []) (hg : Gl X x) (hm : X.mg x = some (.ref C)) (ha : PA X (e :: es) ta) (hdb : (x == ("__debug__" : Str)) = false := by decide) (he : starEach (e :: es) X.env = (false, eval e X.env) :: starEach es X.env := by rfl)
    (hpl : (backTo pos (starEach es X.env)).any (·.1) = false := by rfl) : PE X (.Call (.Name x p) (e :: es) [] pos) (tXmkE C sp ta) := by
  refine ⟨fun pins s σ H Q I h => wpAny_Call_Name_kw (ld_glob I hg hm ?_ hdb)⟩
  refine PySem.W.callWith_K (h₀ := X.base) I.ok.mod.kin T.kC (thn (ha.run pos pins s σ H _ I h) fun us s1 ⟨vs, H1, I1, r1, hz, q1⟩ => ⟨I1.kIn, ?_⟩) he hpl
  show wpAny _ _ (call (.ref C) us) _ _ _
  obtain ⟨B, newId, initId, bmB, F, q⟩ := T.cr
  obtain ⟨nm, N, qn, bs, bm, hdct, sn, sub, ab, col, dd, k0, k1, k2, k3, k5, hC, hT⟩ := PySem.W.excInit_of I1.kIn q
  obtain ⟨hp, g, dr, tk, os⟩ := s1
  have q2 := q1 (hp.objs.size + 1) (I1.hok.fresh (Nat.le_succ _))
  have I2 := xmk_start (C := C) us I1
  have r2 : Vals (V.ref (hp.objs.size + 1) :: vs) (Value.ref (hp.objs.size + 1) :: us) := .cons rfl r1
  have hl : (Value.ref (hp.objs.size + 1) :: us ++ []).length = ps.length := by
    rw [List.append_nil, ← r2.length]
    exact F1.len _ _ _ _ q2
  have hus : us.length ≤ sizeLine := by
    rw [← Paired.length r1]
    exact len100 hz
  have hb2 := hb _ (Value.ref (hp.objs.size + 1) :: us) I2.kIn hl
  rw [List.append_nil] at hb2
  refine wpAny_call (PySem.HandSPX.call_own F hT hC (PySem.W.looks_findIn I1.kIn iC) (fun self => PySem.W.bind_fn I1.kIn self tI) hus ?_)
  refine codeAny_mono (F1.run _ X.stack _ _ ⟨Value.ref (hp.objs.size + 1) :: us, []⟩ (Value.ref (hp.objs.size + 1) :: us) _ _ E0 (hr.make C us []) (I2.env0.make C us []) hb2 r2 q2) fun r s' hq' => ?_
  have kk : ∀ b o, hp.get? b = some o → ((hp.push (PySem.W.kdv_tup us)).push (PySem.HandSPX.excO C hp.objs.size)).get? b = some o := fun b o e => Heap.get?_push_of_some _ (Heap.get?_push_of_some _ e)
  cases r with
  | error e => exact (show False from hq').elim
  | ok fl =>
    cases fl with
    | ret u =>
      obtain ⟨v, H2, I3, rv, ev, d, ea, q⟩ := I2.after hq'
      subst ev
      exact ⟨rv, ⟨V.ref (hp.objs.size + 1), _, I3, rfl, q⟩⟩
    | next => exact False.elim hq'
    | brk => exact False.elim hq'
    | cont => exact False.elim hq'
theorem pe_errE {ps : List Str} (c : EC X.prog X.w X.K X.mg X.base x C ps) (hr : Room k X.A) (le : 2 ≤ k) (hg : Gl X x) (ha : PA X (e :: es) ta) (hdb : (x == ("__debug__" : Str)) = false := by decide) (he : starEach (e :: es) X.env = (false, eval e X.env) :: starEach es X.env := by rfl)
    (hpl : (backTo pos (starEach es X.env)).any (·.1) = false := by rfl) : PE X (.Call (.Name x p) (e :: es) [] pos) (tXmkE C (spInit X.K ps) ta) := by
  obtain ⟨fI, fd, h1, h2, F, hb, _⟩ := c.ini
  exact pe_xmkE c.x h1 h2 F (hr.mono le) hb hg c.g ha hdb he hpl
end
/-- what gives a new own error back makes an exception -/
theorem pmk_exo {X : Cx} {e : Expr} {te : TE} (hx : X.ex = []) (he : PE X e te) :
    PMk X e (fun σ H Q => te σ H fun x H1 => ∃ (a C : Addr) (d : Option Addr), x = .ref a ∧ H1 a = some (exo a C d) ∧ Fr0 X.H_0 a ∧ Raises X (.ref C) ∧ Q (.ref C) d (delH H1 a)) := by
  intro pins s σ H Q I h
  refine wpAny_mono (he.run pins s σ H _ I h) (fun u s1 hu => ?_) fun _ _ x => x
  obtain ⟨v, H1, I1, r1, a, C, d, rfl, ha, h0, hr, q⟩ := hu
  cases r1
  obtain ⟨t1, ho⟩ := exo_at I1.hok ha
  obtain ⟨G, gs, ga, J⟩ := I1.untrack ha h0 hx
  exact ⟨a, _, _, { s1 with heap := G }, delH H1 a, .ref C, d, rfl, J, gs, ga, ho, ⟨rfl, rfl⟩, rfl, rfl, delH_same, rfl, I1.bare, hr, q⟩
end K70
set_option maxRecDepth 100000
set_option maxHeartbeats 4000000
namespace K70
open PySem PySem.Spec PyProof.Rows L2
/-- a call of a def that lets exceptions out -/
structure CallX (P : Program) (w : World) (K : PySem.W.Frag) (mg : Str → Option Value) (base : Heap) (x : Str) (k : Nat) (ps : List Str) (sp : Sp) : Prop where
  ex : ∃ (f : Addr) (fd : FuncData), mg x = some (.ref f) ∧ PySem.W.keepIn K (.ref f) = true ∧ Binds K fd ps [] ∧ FnOk P w K mg base (L2.CX P w) k f fd ps sp
/-- f(e, ..), E: what it lets out -/
def tCallX (sp : Sp) (E : XK) (t : TA) : TE := fun σ H Q => t σ H fun vs H1 => sp vs H1 Q E
theorem app_nil_funX {sp : Sp} {Q : VK} {E : XK} : (fun (vs : List V) (H1 : Hp) => sp (vs ++ []) H1 Q E) = fun vs H1 => sp vs H1 Q E := by
  funext vs H1
  rw [List.append_nil]
theorem pe_callX {X : Cx} {W : WX} {E : XK} {x : Str} {j k : Nat} {ps : List Str} {sp : Sp} {e : Expr} {es : List Expr} {t : TA} {p pos : Pos} (C : CallX X.prog X.w X.K X.mg X.base x j ps sp) (hr : Room k X.A) (le : j ≤ k) (tk : Takes X W) (hW : ∀ cls d σ H, E cls d H → W cls d σ H)
    (hg : Gl X x) (ha : PA X (e :: es) t) (hdb : (x == ("__debug__" : Str)) = false := by decide) (he : starEach (e :: es) X.env = (false, eval e X.env) :: starEach es X.env := by rfl) (hpl : (backTo pos (starEach es X.env)).any (·.1) = false := by rfl) :
    PE X (.Call (.Name x p) (e :: es) [] pos) (tCallX sp E t) := by
  obtain ⟨f, fd, hm, hk, hb, F⟩ := C.ex
  have h := pe_call (p := p) (pos := pos) F (hr.mono le) hg hm hk hb .nil (passes_call tk hW) ha hdb he hpl
  have e : tCall sp [] E t = tCallX sp E t := by
    funext σ H Q
    show t σ H (fun vs H1 => sp (vs ++ []) H1 Q E) = t σ H fun vs H1 => sp vs H1 Q E
    rw [app_nil_funX]
  rw [← e]
  exact h
section
variable {P : Program} {w : World} {K : PySem.W.Frag} {mg : Str → Option Value} {base : Heap}
theorem DefT.callX {x : Str} {st : Stmt} {N ps : List Str} {k : Nat} {sp : Sp} (D : DefT K mg x st) (S : FnScope N ps (defScope st)) (len : ∀ vs H Q E, sp vs H Q E → vs.length = ps.length)
    (hb : ∀ (kV doc pm : Value) (an : Option Addr) (cdv ct : Value) (us : List Value), us.length = ps.length → bindArgs (PySem.W.fnOf x x (defArgs st) (defBody st) (defScope st) .none kV doc pm an cdv ct) ⟨us, []⟩ = pure (ps.zip us))
    (hbody : ∀ (f : Addr) (cdv : Value) (A : Around) (outer : List Env) (s : Shared) (H : Hp) (vs : List V) (Q : VK) (E : XK), Room k (A.deeper (envOfC x (defScope st) s.heap.objs.size f cdv)) → sp vs H Q E →
      ∃ t, PSs (cxOf (L2.CX P w) P w K mg base N x (defScope st) f cdv A outer s H E) (defBody st) t ∧ t { nx := fun _ H' => Q .non H', rt := Q } (start N vs) H) : CallX P w K mg base x (k + 1) ps sp := by
  obtain ⟨f, fd, hm, F⟩ := D.ex
  exact ⟨f, fd, hm, F.kp, F.bindsN hb, F.ok S len fun cdv A outer s H vs Q E hr h => hbody f cdv A outer s H vs Q E hr h⟩
/-- it raises C(x), the field f told -/
def spThrow (C : Addr) (f : Str) : Sp := fun vs H _ E => ∃ x, vs = [x] ∧ ∀ H' d fs, Same H H' → H' d = some (exd d fs) → fs.lookup f = some x → E (.ref C) (some d) H'
abbrev sThrown : Stmt := topS 54
theorem scThrown : FnScope ["_law_x"] ["_law_x"] (defScope sThrown) := ⟨rfl, rfl, rfl, by decide +kernel, rfl, by decide +kernel, by decide +kernel⟩
theorem ok_Thrown (D : DefT K mg "_law_thrown" sThrown) {C : Addr} (c : EC P w K mg base "Short" C ["amount"]) : CallX P w K mg base "_law_thrown" 3 ["_law_x"] (spThrow C "amount") := by
  refine D.callX scThrown (fun vs H Q E h => ?_) (fun _ _ _ _ _ _ us hl => match us, hl with | [_], _ => rfl) (fun f cdv A outer s H vs Q E hr h => ?_)
  · obtain ⟨x, rfl, _⟩ := h
    rfl
  · refine ⟨_, pss_one (ps_raise rfl (takes_of rfl rfl rfl rfl) (pmk_exo rfl (pe_errE c hr (by omega) (by rfl) (pa_cons (pv 0) pa_nil)))), ?_⟩
    obtain ⟨x, rfl, q⟩ := h
    refine ⟨x, rfl, (by show 1 ≤ 100; decide), fun a na => ⟨a, C, [x], rfl, rfl, upd_same, c.x, c.no, fun G d fs hga hgd hda look keep => ⟨rfl, some d, hga, a, C, some d, rfl, hga, fr0_none na, raises_own c.x.exC c.x.tyC, ?_⟩⟩⟩
    refine q _ d fs (fun b o hb => ?_) (by rw [delH_ne hda]; exact hgd) (look 0 _ x rfl rfl)
    have nb := ne_of_none hb na
    rw [delH_ne nb]
    exact keep b o nb (by rw [upd_ne nb]; exact hb)
abbrev sMissedIt : Stmt := topS 55
theorem scMissedIt : FnScope ["_law_x"] ["_law_x"] (defScope sMissedIt) := ⟨rfl, rfl, rfl, by decide +kernel, rfl, by decide +kernel, by decide +kernel⟩
theorem ok_MissedIt (D : DefT K mg "_law_missed" sMissedIt) {C : Addr} (c : EC P w K mg base "UnknownHop" C ["hop"]) : CallX P w K mg base "_law_missed" 3 ["_law_x"] (spThrow C "hop") := by
  refine D.callX scMissedIt (fun vs H Q E h => ?_) (fun _ _ _ _ _ _ us hl => match us, hl with | [_], _ => rfl) (fun f cdv A outer s H vs Q E hr h => ?_)
  · obtain ⟨x, rfl, _⟩ := h
    rfl
  · refine ⟨_, pss_one (ps_raise rfl (takes_of rfl rfl rfl rfl) (pmk_exo rfl (pe_errE c hr (by omega) (by rfl) (pa_cons (pv 0) pa_nil)))), ?_⟩
    obtain ⟨x, rfl, q⟩ := h
    refine ⟨x, rfl, (by show 1 ≤ 100; decide), fun a na => ⟨a, C, [x], rfl, rfl, upd_same, c.x, c.no, fun G d fs hga hgd hda look keep => ⟨rfl, some d, hga, a, C, some d, rfl, hga, fr0_none na, raises_own c.x.exC c.x.tyC, ?_⟩⟩⟩
    refine q _ d fs (fun b o hb => ?_) (by rw [delH_ne hda]; exact hgd) (look 0 _ x rfl rfl)
    have nb := ne_of_none hb na
    rw [delH_ne nb]
    exact keep b o nb (by rw [upd_ne nb]; exact hb)
abbrev sRefusedIt : Stmt := topS 56
theorem scRefusedIt : FnScope ["_law_x"] ["_law_x"] (defScope sRefusedIt) := ⟨rfl, rfl, rfl, by decide +kernel, rfl, by decide +kernel, by decide +kernel⟩
theorem ok_RefusedIt (D : DefT K mg "_law_refused" sRefusedIt) {C : Addr} (c : EC P w K mg base "Started" C ["tick"]) : CallX P w K mg base "_law_refused" 3 ["_law_x"] (spThrow C "tick") := by
  refine D.callX scRefusedIt (fun vs H Q E h => ?_) (fun _ _ _ _ _ _ us hl => match us, hl with | [_], _ => rfl) (fun f cdv A outer s H vs Q E hr h => ?_)
  · obtain ⟨x, rfl, _⟩ := h
    rfl
  · refine ⟨_, pss_one (ps_raise rfl (takes_of rfl rfl rfl rfl) (pmk_exo rfl (pe_errE c hr (by omega) (by rfl) (pa_cons (pv 0) pa_nil)))), ?_⟩
    obtain ⟨x, rfl, q⟩ := h
    refine ⟨x, rfl, (by show 1 ≤ 100; decide), fun a na => ⟨a, C, [x], rfl, rfl, upd_same, c.x, c.no, fun G d fs hga hgd hda look keep => ⟨rfl, some d, hga, a, C, some d, rfl, hga, fr0_none na, raises_own c.x.exC c.x.tyC, ?_⟩⟩⟩
    refine q _ d fs (fun b o hb => ?_) (by rw [delH_ne hda]; exact hgd) (look 0 _ x rfl rfl)
    have nb := ne_of_none hb na
    rw [delH_ne nb]
    exact keep b o nb (by rw [upd_ne nb]; exact hb)
end
end K70
set_option maxRecDepth 100000
set_option maxHeartbeats 4000000
namespace K70
open PySem PySem.Spec PyProof.Rows L2 LamX
abbrev sTaken : Stmt := topS 53
theorem scTaken : FnScope ["_law_deed", "_law_error"] ["_law_deed"] (defScope sTaken) := ⟨rfl, rfl, rfl, by decide +kernel, rfl, by decide +kernel, by decide +kernel⟩
/-- what the clauses of _law_taken make of an exception -/
def tkn (K : PySem.W.Frag) (Q : VK) : List (Str × Addr) → XK
  | [] => fun _ _ _ => False
  | (nm, C) :: r => fun cls d H => ∃ b, PySem.W.exmOne K cls (.ref C) = some b ∧ (b = true → ∀ a p, H a = none → (upd H a (xc a cls d)) p = none → Q (.ref p) (upd (upd H a (xc a cls d)) p (.lst [.str nm, .ref a]))) ∧ (b = false → tkn K Q r cls d H)
abbrev tPairE (nm : Str) : TS := tRet (tLst (tCons (tC (.str nm)) (tCons (tVar 1) tNil)))
theorem wMA_of {K : PySem.W.Frag} {Wout : WX} {D : Ends} {cls : Value} {d : Option Addr} {σ : L2.St} {H : Hp} (hl : σ.length = 2) : ∀ {l : List (Str × Addr)}, tkn K D.rt l cls d H → wMA K Wout 1 D (l.map fun q => (Value.ref q.2, tPairE q.1)) cls d σ H
  | [], h => h.elim
  | (nm, C) :: r, h => by
    obtain ⟨b, e, h1, h2⟩ := h
    refine ⟨b, e, fun hb a na => ?_, fun hb => wMA_of hl (h2 hb)⟩
    have hv : (σ.set 1 (some (.ref a)))[1]? = some (some (.ref a)) := by rw [List.getElem?_set_self (by omega)]
    exact ⟨.ref a, hv, (by show 2 ≤ sizeLine; decide), fun p np => h1 hb a p na np⟩
def TTaken (K : PySem.W.Frag) (l : List (Str × Addr)) : (XK → Hp → VK → Prop) → Hp → VK → Prop := fun tl H Q => tl (tkn K Q l) H fun _ H1 => ∀ p, H1 p = none → Q (.ref p) (upd H1 p (.lst [.str "none", .non]))
theorem taken_gives {X : Cx} {q : Str} {g CB CM CR : Addr} {cdg : Value} (g1 : X.mg "BandError" = some (.ref CB)) (g2 : X.mg "Missing" = some (.ref CM)) (g3 : X.mg "Refused" = some (.ref CR)) :
    GivesTo X ["_law_deed", "_law_error"] "_law_taken" (defScope sTaken) g cdg (defBody sTaken) "_law_deed" q (TTaken X.K [("BandError", CB), ("Missing", CM), ("Refused", CR)]) := by
  intro f c' s H Q tl act hc h
  refine ⟨_, pss_cons (ps_try_mas (X := (cxOf C8.CX0 X.prog X.w X.K X.mg X.base ["_law_deed", "_law_error"] "_law_taken" (defScope sTaken) g cdg X.A X.stack s H C8.E0).nox) (n := "_law_error") (i := 1) (l := [(.ref CB, tPairE "BandError"), (.ref CM, tPairE "Missing"), (.ref CR, tPairE "Refused")])
      (tb := fun W D σ H => ∃ Ech : XK, (∀ cls d σ' H', σ'.length = 2 → Ech cls d H' → W cls d σ' H') ∧ σ[0]? = some (some (.ref f)) ∧ H c' = some (CodeO c' q) ∧ tl Ech H fun _ H1 => D.nx σ H1)
      rfl rfl rfl scTaken.nd rfl (by rfl) LamX.takes0 (fun W pn xe tk _ => ?_)
      (.cons ⟨by rfl, by decide, .inl g1⟩ (fun a pn => pss_one (ps_ret (pe_lst (pa_cons pe_str (pa_cons (pv 1) pa_nil))))) (.cons ⟨by rfl, by decide, .inl g2⟩ (fun a pn => pss_one (ps_ret (pe_lst (pa_cons pe_str (pa_cons (pv 1) pa_nil)))))
        (.cons ⟨by rfl, by decide, .inl g3⟩ (fun a pn => pss_one (ps_ret (pe_lst (pa_cons pe_str (pa_cons (pv 1) pa_nil))))) .nil))))
    (pss_one (ps_ret (pe_lst (pa_cons pe_str (pa_cons pe_non pa_nil))))), ?_⟩
  · refine ⟨fun pins s' σ H' D I h' => ?_⟩
    obtain ⟨Ech, hW, h1, h2, h3⟩ := h'
    have hp := fun p1 p2 => act (fun c d σ H => σ.length = 2 → W c d σ H) pn xe Ech p1 p2 (takes_len tk) (fun cls d σ' H' hE hl => hW cls d σ' H' hl hE)
    exact (pss_one (ps_expr (hp _ _))).run pins s' σ H' D I ⟨h1, h2, h3⟩
  · refine ⟨tkn X.K Q [("BandError", CB), ("Missing", CM), ("Refused", CR)], fun cls d σ' H' hl hE => ?_, rfl, hc, ?_⟩
    · exact wMA_of (l := [("BandError", CB), ("Missing", CM), ("Refused", CR)]) hl hE
    · have e : (fun (_ : V) H1 => ∀ p, H1 p = none → Q (.ref p) (upd H1 p (.lst [.str "none", .non]))) = fun (_ : V) H1 => 2 ≤ sizeLine ∧ ∀ p, H1 p = none → Q (.ref p) (upd H1 p (.lst [.str "none", .non])) := by
        funext _ H1
        exact propext ⟨fun z => ⟨by decide, z⟩, fun z => z.2⟩
      have h' : tl (tkn X.K Q [("BandError", CB), ("Missing", CM), ("Refused", CR)]) H fun _ H1 => ∀ p, H1 p = none → Q (.ref p) (upd H1 p (.lst [.str "none", .non])) := h
      rw [e] at h'
      exact h'
end K70
set_option maxRecDepth 100000
set_option maxHeartbeats 4000000
namespace K70
open PySem PySem.Spec PyProof.Rows L2 LamX
abbrev sLaw : Stmt := topS 58
theorem scLaw : FnScope ["_law_script", "_law_bag_here", "_law_turn", "_law_x", "_law_y", "_law_first", "_law_again", "_law_one", "_law_two", "_law_three"] ["_law_script"] (defScope sLaw) := ⟨rfl, rfl, rfl, by decide +kernel, rfl, by decide +kernel, by decide +kernel⟩
/-! ### what stays behind a lambda -/
theorem ExtN.lst {H H' : Hp} {a : Addr} {xs : List V} (e : ExtN H H') (h : H a = some (.lst xs)) : H' a = some (.lst xs) := e _ _ h fun _ z => nomatch z
theorem ExtN.tup {H H' : Hp} {a : Addr} {xs : List V} (e : ExtN H H') (h : H a = some (.tup xs)) : H' a = some (.tup xs) := e _ _ h fun _ z => nomatch z
theorem Eqv.extN {H H' : Hp} (s : ExtN H H') : ∀ {d : Nat} {v u : V}, Eqv H d v u → Eqv H' d v u
  | 0, _, _, h => h
  | d + 1, v, u, h => by
    rcases h with h | ⟨a, c, xs, ys, e1, e2, z, l, l2, m⟩
    · exact .inl h
    · refine .inr ⟨a, c, xs, ys, e1, e2, ?_, l, l2, fun i x y hx hy => Eqv.extN s (m i x y hx hy)⟩
      rcases z with ⟨z1, z2⟩ | ⟨z1, z2⟩
      · exact .inl ⟨ExtN.lst s z1, ExtN.lst s z2⟩
      · exact .inr ⟨ExtN.tup s z1, ExtN.tup s z2⟩
theorem Bag.extN {H H' : Hp} {b : Addr} (s : ExtN H H') (B : Bag H b) : Bag H' b := by
  obtain ⟨l, ns, i, left, seed, cnt, B⟩ := B
  exact ⟨l, ns, i, left, seed, cnt, ExtN.lst s B.hb, ExtN.lst s B.hl, B.ne, B.hi, B.h0, B.s0, B.s1⟩
theorem ext_ne {φ : Heap → Prop} (ps : Array Value) : (HO.ext φ) ≠ .tbl ps := fun z => by cases z
theorem Err.extN {H H' : Hp} {a C : Addr} {fs : List (Str × V)} (s : ExtN H H') (x : Err H a C fs) : Err H' a C fs := by
  rcases x with ⟨e, h⟩ | ⟨d, h1, h2⟩
  · exact .inl ⟨e, s _ _ h ext_ne⟩
  · exact .inr ⟨d, s _ _ h1 ext_ne, s _ _ h2 ext_ne⟩
theorem tabs_but {T : List (Addr × Str)} {H H' : Hp} {b : Addr} (G : Bag H b) (B : But b H H') (t : Tabs T H) : Tabs T H' := by
  obtain ⟨l, ns, i, left, seed, cnt, Z⟩ := G
  intro p hp
  obtain ⟨ps, h1, h2, h3⟩ := t p hp
  have ne : ∀ {a : Addr} {o : HO}, H a = some o → (∀ xs, o ≠ .lst xs) → a ≠ b := fun {a o} h n z => by
    rw [z, Z.hb] at h
    exact n _ (Option.some.inj h).symm
  refine ⟨ps, B.run _ _ (ne h1 fun xs z => by cases z) h1, h2, fun pos cv hcv => ?_⟩
  obtain ⟨c, e1, e2⟩ := h3 pos cv hcv
  exact ⟨c, e1, B.run _ _ (ne e2 fun xs z => by unfold CodeO at z; cases z) e2⟩
theorem extN_same {H H' : Hp} (s : Same H H') : ExtN H H' := fun b o h _ => s b o h
/-! ### rows of all the classes -/
theorem rowsL {K : PySem.W.Frag} {L0 : List (Str × Str)} (h : ∀ n ∈ L0, ∃ q3 ∈ errs3, n.1 = q3.1 ∧ n.2 = q3.2.1) : ∀ q ∈ L0.map (fun n => (n.1, n.2, He.ga K n.1)), (∃ q3 ∈ errs3, q.1 = q3.1 ∧ q.2.1 = q3.2.1) ∧ q.2.2 = He.ga K q.1 := by
  intro q hq
  obtain ⟨n, hn, rfl⟩ := List.mem_map.mp hq
  exact ⟨h n hn, rfl⟩
theorem rows1 (K : PySem.W.Frag) : ∀ q ∈ lFirstMade K, (∃ q3 ∈ errs3, q.1 = q3.1 ∧ q.2.1 = q3.2.1) ∧ q.2.2 = He.ga K q.1 := rowsL (L0 := [("BadAmount", "BandError"), ("BadLink", "BandError"), ("BadFlow", "BandError"), ("BadAge", "BandError"), ("BadPart", "BandError"), ("TooMany", "BandError"), ("DuplicateName", "BandError"), ("Idle", "BandError"), ("Overpromised", "BandError"), ("Small", "BandError"), ("BadText", "BandError")]) (by decide +kernel)
theorem rows2 (K : PySem.W.Frag) : ∀ q ∈ lMiddleMade K, (∃ q3 ∈ errs3, q.1 = q3.1 ∧ q.2.1 = q3.2.1) ∧ q.2.2 = He.ga K q.1 := rowsL (L0 := [("BadManner", "BandError"), ("BadCapacity", "BandError"), ("BadSharing", "BandError"), ("BadBand", "BandError"), ("NotPlain", "BandError"), ("Future", "BandError"), ("Short", "BandError"), ("BadValue", "BandError"), ("BadState", "BandError"), ("BadCount", "BandError"), ("BadDeed", "BandError")]) (by decide +kernel)
theorem rows3 (K : PySem.W.Frag) : ∀ q ∈ lLastMade K, (∃ q3 ∈ errs3, q.1 = q3.1 ∧ q.2.1 = q3.2.1) ∧ q.2.2 = He.ga K q.1 := rowsL (L0 := [("UnknownName", "Missing"), ("UnknownChannel", "Missing"), ("UnknownHop", "Missing"), ("NoSuchLetter", "Missing"), ("NoSuchTick", "Missing"), ("Started", "Refused"), ("NotStrange", "Refused"), ("NotShaky", "Refused"), ("Unseen", "Refused")]) (by decide +kernel)
section
variable {K : PySem.W.Frag} {σ : L2.St} {H : Hp} {x y : V} {i j : Nat}
theorem l31_1 : (lFirstMade K).length ≤ 31 := by
  unfold lFirstMade
  simp
theorem l31_2 : (lMiddleMade K).length ≤ 31 := by
  unfold lMiddleMade
  simp
theorem l31_3 : (lLastMade K).length ≤ 31 := by
  unfold lLastMade
  simp
theorem made3 {Q : VK} (hi : σ[i]? = some (some x)) (hj : σ[j]? = some (some y)) (q : ∀ H' p rows, Same H H' → H' p = some (.lst rows) → rows.length = 31 → (∀ v ∈ rows, RowF K x y H' v) → Q (.ref p) H') :
    tOp rCat (tOp rCat (tCallD (spMade (lFirstMade K)) (tCons (tVar i) (tCons (tVar j) tNil))) (tCallD (spMade (lMiddleMade K)) (tCons (tVar i) (tCons (tVar j) tNil)))) (tCallD (spMade (lLastMade K)) (tCons (tVar i) (tCons (tVar j) tNil))) σ H Q := by
  refine ⟨x, hi, y, hj, x, y, rfl, fun H1 r1 w1 s1 n1 h1 R1 => ?_⟩
  have F1 := RowsOk.rowF (rows1 K) R1
  have l1 := R1.len
  refine ⟨x, hi, y, hj, x, y, rfl, fun H2 r2 w2 s2 n2 h2 R2 => ?_⟩
  have F2 := RowsOk.rowF (rows2 K) R2
  have l2 := R2.len
  have l1' : w1.length ≤ 31 := by rw [l1]; exact l31_1
  have l2' : w2.length ≤ 31 := by rw [l2]; exact l31_2
  refine ⟨r1, r2, w1, w2, rfl, rfl, s2 _ _ h1, h2, small100 (by omega), fun p np => ?_⟩
  have s3 := same_new (o := .lst (w1 ++ w2)) np
  refine ⟨x, hi, y, hj, x, y, rfl, fun H4 r4 w4 s4 n4 h4 R4 => ?_⟩
  have F4 := RowsOk.rowF (rows3 K) R4
  have l4 := R4.len
  have l4' : w4.length ≤ 31 := by rw [l4]; exact l31_3
  refine ⟨p, r4, w1 ++ w2, w4, rfl, rfl, s4 _ _ upd_same, h4, small100 (by rw [List.length_append]; omega), fun p5 n5 => ?_⟩
  have s5 := same_new (o := .lst (w1 ++ w2 ++ w4)) n5
  refine q _ p5 _ (s1.trans (s2.trans (s3.trans (s4.trans s5)))) upd_same (by rw [List.length_append, List.length_append, l1, l2, l4]; rfl) fun v hv => ?_
  rcases List.mem_append.mp hv with hv | hv
  · rcases List.mem_append.mp hv with hv | hv
    · exact (F1 v hv).same (s2.trans (s3.trans (s4.trans s5)))
    · exact (F2 v hv).same (s3.trans (s4.trans s5))
  · exact (F4 v hv).same s5
theorem lam_step {T : List (Addr × Str)} {C : Addr} {f nm : Str} {l : List (Str × Addr)} {Q : VK} (hT : Tabs T H) (hx : σ[3]? = some (some x)) (pick : ∀ (Q : VK) d H, (∀ a p, H a = none → (upd H a (xc a (.ref C) d)) p = none → Q (.ref p) (upd (upd H a (xc a (.ref C) d)) p (.lst [.str nm, .ref a]))) → tkn K Q l (.ref C) d H)
    (q : ∀ H' p a fs, ExtN H H' → Tabs T H' → H' p = some (.lst [.str nm, .ref a]) → Err H' a C fs → fs.lookup f = some x → Q (.ref p) H') : tLam T (TTaken K l) (fun E => tCallX (spThrow C f) E (tCons (tVar 3) tNil)) σ H Q := by
  refine ⟨hT, fun H1 e1 T1 => ⟨x, hx, x, rfl, fun H2 d fs s2 hd look => pick Q (some d) H2 fun a p na np => ?_⟩⟩
  have s3 := same_new (o := xc a (.ref C) (some d)) na
  have s4 := same_new (o := .lst [.str nm, .ref a]) np
  have s24 := s2.trans (s3.trans s4)
  exact q _ p a fs (e1.trans (extN_same s24)) (T1.ext s24) upd_same (.inr ⟨d, s4 _ _ upd_same, s4 _ _ (s3 _ _ hd)⟩) look
end
structure TakeF (K : PySem.W.Frag) : Prop where
  a : PySem.W.exmOne K (.ref (He.ga K "Short")) (.ref (He.ga K "BandError")) = some true
  b : PySem.W.exmOne K (.ref (He.ga K "UnknownHop")) (.ref (He.ga K "BandError")) = some false
  c : PySem.W.exmOne K (.ref (He.ga K "UnknownHop")) (.ref (He.ga K "Missing")) = some true
  d : PySem.W.exmOne K (.ref (He.ga K "Started")) (.ref (He.ga K "BandError")) = some false
  e : PySem.W.exmOne K (.ref (He.ga K "Started")) (.ref (He.ga K "Missing")) = some false
  f : PySem.W.exmOne K (.ref (He.ga K "Started")) (.ref (He.ga K "Refused")) = some true
abbrev l3 (K : PySem.W.Frag) : List (Str × Addr) := [("BandError", He.ga K "BandError"), ("Missing", He.ga K "Missing"), ("Refused", He.ga K "Refused")]
theorem pick1 {K : PySem.W.Frag} (X : TakeF K) (Q : VK) (d : Option Addr) (H : Hp) (h : ∀ a p, H a = none → (upd H a (xc a (.ref (He.ga K "Short")) d)) p = none → Q (.ref p) (upd (upd H a (xc a (.ref (He.ga K "Short")) d)) p (.lst [.str "BandError", .ref a]))) :
    tkn K Q (l3 K) (.ref (He.ga K "Short")) d H := ⟨true, X.a, fun _ => h, fun z => nomatch z⟩
theorem pick2 {K : PySem.W.Frag} (X : TakeF K) (Q : VK) (d : Option Addr) (H : Hp) (h : ∀ a p, H a = none → (upd H a (xc a (.ref (He.ga K "UnknownHop")) d)) p = none → Q (.ref p) (upd (upd H a (xc a (.ref (He.ga K "UnknownHop")) d)) p (.lst [.str "Missing", .ref a]))) :
    tkn K Q (l3 K) (.ref (He.ga K "UnknownHop")) d H := ⟨false, X.b, (fun z => nomatch z), fun _ => ⟨true, X.c, fun _ => h, fun z => nomatch z⟩⟩
theorem pick3 {K : PySem.W.Frag} (X : TakeF K) (Q : VK) (d : Option Addr) (H : Hp) (h : ∀ a p, H a = none → (upd H a (xc a (.ref (He.ga K "Started")) d)) p = none → Q (.ref p) (upd (upd H a (xc a (.ref (He.ga K "Started")) d)) p (.lst [.str "Refused", .ref a]))) :
    tkn K Q (l3 K) (.ref (He.ga K "Started")) d H := ⟨false, X.d, (fun z => nomatch z), fun _ => ⟨false, X.e, (fun z => nomatch z), fun _ => ⟨true, X.f, fun _ => h, fun z => nomatch z⟩⟩⟩
abbrev tT (tP : Addr) : List (Addr × Str) := [(tP, "law.<locals>.<lambda>")]
def spLaw (K : PySem.W.Frag) (tP : Addr) : Sp := fun vs H Q _ => ∃ (a : Addr) (ns : List Int), vs = [.ref a] ∧ SqL K H a (ns.map V.int) ∧ ns.length ≤ 63 ∧ Tabs (tT tP) H ∧ ∀ H', Q (.bl true) H'
section
variable {P : Program} {w : World} {K : PySem.W.Frag} {mg : Str → Option Value} {base : Heap}
abbrev CBag (P : Program) (w : World) (K : PySem.W.Frag) (mg : Str → Option Value) (base : Heap) : Prop := Call1 P w K mg base "_law_bag" 1 ["_law_script"] (spBag K)
theorem ok_law {f : Addr} {fd : FuncData} {c tP : Addr} (F : FunD K "law" "law" (defArgs sLaw) (defBody sLaw) (defScope sLaw) [] [] f fd) (hcode : fd.code = .ref c) (TB : TabB base mg c tP) (B : Bl mg) (O : Owns K mg) (X : TakeF K) (DT : DefT K mg "_law_taken" sTaken)
    (xS : XC K (He.ga K "Short")) (xU : XC K (He.ga K "UnknownHop")) (xR : XC K (He.ga K "Started")) (nS : PySem.W.findIn K (.ref (He.ga K "Short")) "amount" = some none) (nU : PySem.W.findIn K (.ref (He.ga K "UnknownHop")) "hop" = some none) (nR : PySem.W.findIn K (.ref (He.ga K "Started")) "tick" = some none)
    (C_law_bag : CBag P w K mg base) (C_law_draw : CDraw P w K mg base) (C_law_of : COf P w K mg base) (C_law_odd : Call1 P w K mg base "_law_odd" 3 ["_law_bag_here"] (spDat 4)) (C_law_word : Call1 P w K mg base "_law_word" 3 ["_law_bag_here"] (spDat 4)) (C_law_amount : Call1 P w K mg base "_law_amount" 4 ["_law_bag_here"] (spDat 4))
    (C_law_like : CLike P w K mg base 5) (C_law_rows_so : Call1 P w K mg base "_law_rows_so" 7 ["_law_rows", "_law_x", "_law_y"] (spRows K))
    (C_law_first_made : Call1 P w K mg base "_law_first_made" 3 ["_law_x", "_law_y"] (spMade (lFirstMade K))) (C_law_middle_made : Call1 P w K mg base "_law_middle_made" 3 ["_law_x", "_law_y"] (spMade (lMiddleMade K))) (C_law_last_made : Call1 P w K mg base "_law_last_made" 3 ["_law_x", "_law_y"] (spMade (lLastMade K)))
    (C_law_thrown : CallX P w K mg base "_law_thrown" 3 ["_law_x"] (spThrow (He.ga K "Short") "amount")) (C_law_missed : CallX P w K mg base "_law_missed" 3 ["_law_x"] (spThrow (He.ga K "UnknownHop") "hop")) (C_law_refused : CallX P w K mg base "_law_refused" 3 ["_law_x"] (spThrow (He.ga K "Started") "tick")) :
    FnOk P w K mg base CX0 8 f fd ["_law_script"] (spLaw K tP) := by
  obtain ⟨oc, od, dV, kV, doc, pm, an, cdv, ct, osl, rfl, lk, hcd, _, _⟩ := F.ex
  obtain rfl : cdv = .ref c := hcode
  obtain ⟨gTa, fdT, gT, FT⟩ := DT.ex
  have kT := FT.kp
  have bT : Binds K fdT ["_law_deed"] [] := FT.bindsN fun _ _ _ _ _ _ us hl => match us, hl with | [_], _ => rfl
  obtain ⟨oc2, od2, dV2, kV2, doc2, pm2, an2, cdv2, ct2, osl2, rfl, lkT, cT, _, _⟩ := FT.ex
  have g_BandError := O.g "BandError" (by decide +kernel)
  have g_Missing := O.g "Missing" (by decide +kernel)
  have g_Refused := O.g "Refused" (by decide +kernel)
  have hmT : (tP, ("law" : Str) ++ ".<locals>." ++ "<lambda>") ∈ tT tP := List.mem_cons_self
  have huT : ∀ p ∈ tT tP, p.1 = tP → p.2 = ("law" : Str) ++ ".<locals>." ++ "<lambda>" := fun p hp _ => by
    rw [List.mem_singleton.mp hp]
    rfl
  refine fn_of lk hcd scLaw (fun vs H Q E h => ?_) fun A outer s H vs Q E hr h => ?_
  · obtain ⟨a, ns, rfl, _⟩ := h
    rfl
  · refine ⟨_, PSs.nox (pss_cons (ps_set (i := 1) scLaw.nd rfl (.inl rfl) (pe_callD C_law_bag hr (by omega) (by rfl) (pa_cons (pv 0) pa_nil)))
 (pss_cons (ps_for PassesOwn.never rfl (pi_range1 (by rfl) B.range (pa_cons pe_int pa_nil)) (pg_name (i := 2) scLaw.nd rfl (.inl rfl))
 (pss_cons (ps_set (i := 3) scLaw.nd rfl (.inr rfl) (pe_callD C_law_of hr (by omega) (by rfl) (pa_cons (pv 1) (pa_cons (pe_lst (pa_cons (pe_callD C_law_odd hr (by omega) (by rfl) (pa_cons (pv 1) pa_nil)) (pa_cons (pe_callD C_law_word hr (by omega) (by rfl) (pa_cons (pv 1) pa_nil)) (pa_cons (pe_callD C_law_amount hr (by omega) (by rfl) (pa_cons (pv 1) pa_nil)) pa_nil)))) pa_nil))))
 (pss_cons (ps_set (i := 4) scLaw.nd rfl (.inl rfl) (pe_callD C_law_of hr (by omega) (by rfl) (pa_cons (pv 1) (pa_cons (pe_lst (pa_cons (pe_callD C_law_odd hr (by omega) (by rfl) (pa_cons (pv 1) pa_nil)) (pa_cons (pe_callD C_law_draw hr (by omega) (by rfl) (pa_cons (pv 1) (pa_cons pe_int pa_nil))) (pa_cons (pe_var (i := 3) rfl (.inr (.inl rfl))) pa_nil)))) pa_nil))))
 (pss_cons (ps_set (i := 5) scLaw.nd rfl (.inl rfl) (pe_op op_cat (pe_op op_cat (pe_callD C_law_first_made hr (by omega) (by rfl) (pa_cons (pe_var (i := 3) rfl (.inr (.inl rfl))) (pa_cons (pv 4) pa_nil))) (pe_callD C_law_middle_made hr (by omega) (by rfl) (pa_cons (pe_var (i := 3) rfl (.inr (.inl rfl))) (pa_cons (pv 4) pa_nil)))) (pe_callD C_law_last_made hr (by omega) (by rfl) (pa_cons (pe_var (i := 3) rfl (.inr (.inl rfl))) (pa_cons (pv 4) pa_nil)))))
 (pss_cons (ps_set (i := 6) scLaw.nd rfl (.inl rfl) (pe_op op_cat (pe_op op_cat (pe_callD C_law_first_made hr (by omega) (by rfl) (pa_cons (pv 4) (pa_cons (pe_var (i := 3) rfl (.inr (.inl rfl))) pa_nil))) (pe_callD C_law_middle_made hr (by omega) (by rfl) (pa_cons (pv 4) (pa_cons (pe_var (i := 3) rfl (.inr (.inl rfl))) pa_nil)))) (pe_callD C_law_last_made hr (by omega) (by rfl) (pa_cons (pv 4) (pa_cons (pe_var (i := 3) rfl (.inr (.inl rfl))) pa_nil)))))
 (pss_cons (ps_if (PW.pt (pw_or (pt_cmpR op_ne (pe_callB call_len_seq (by rfl) B.len boot_len (pa_cons (pv 5) pa_nil)) pe_int (nomark _)) (pw_or (pt_not (pt_val (pe_callD C_law_rows_so hr (by omega) (by rfl) (pa_cons (pv 6) (pa_cons (pv 4) (pa_cons (pe_var (i := 3) rfl (.inr (.inl rfl))) pa_nil)))) (fun _ => rfl))) (pw_or1 (pt_not (pt_val (pe_callD C_law_rows_so hr (by omega) (by rfl) (pa_cons (pv 5) (pa_cons (pe_var (i := 3) rfl (.inr (.inl rfl))) (pa_cons (pv 4) pa_nil)))) (fun _ => rfl)))))))
 (pss_one (ps_ret pe_bl))
 pss_nil)
 (pss_cons (ps_set (i := 7) scLaw.nd rfl (.inl rfl) (pe_lamcall (k := 5) (x := "_law_taken") (a := "_law_deed") (t := fun E => tCallX (spThrow (He.ga K "Short") "amount") E (tCons (tVar 3) tNil)) (T := [(tP, "law.<locals>.<lambda>")]) (by rfl) gT kT lkT cT bT scTaken rfl (.inl rfl) (taken_gives g_BandError g_Missing g_Refused) TB rfl hmT huT hr (lamS_by (sc := defScope sLaw) (by decide +kernel)) rfl (fun _ _ _ _ _ => rfl) (fun A outer s H E f c' hr3 => pe_callX C_law_thrown hr3 (by omega) (takes_of rfl rfl rfl rfl) (fun _ _ _ _ h => h) (by rfl) (pa_cons (pe_var (i := 3) rfl (.inr (.inr rfl))) pa_nil))))
 (pss_cons (ps_set (i := 8) scLaw.nd rfl (.inl rfl) (pe_lamcall (k := 5) (x := "_law_taken") (a := "_law_deed") (t := fun E => tCallX (spThrow (He.ga K "UnknownHop") "hop") E (tCons (tVar 3) tNil)) (T := [(tP, "law.<locals>.<lambda>")]) (by rfl) gT kT lkT cT bT scTaken rfl (.inl rfl) (taken_gives g_BandError g_Missing g_Refused) TB rfl hmT huT hr (lamS_by (sc := defScope sLaw) (by decide +kernel)) rfl (fun _ _ _ _ _ => rfl) (fun A outer s H E f c' hr3 => pe_callX C_law_missed hr3 (by omega) (takes_of rfl rfl rfl rfl) (fun _ _ _ _ h => h) (by rfl) (pa_cons (pe_var (i := 3) rfl (.inr (.inr rfl))) pa_nil))))
 (pss_cons (ps_set (i := 9) scLaw.nd rfl (.inl rfl) (pe_lamcall (k := 5) (x := "_law_taken") (a := "_law_deed") (t := fun E => tCallX (spThrow (He.ga K "Started") "tick") E (tCons (tVar 3) tNil)) (T := [(tP, "law.<locals>.<lambda>")]) (by rfl) gT kT lkT cT bT scTaken rfl (.inl rfl) (taken_gives g_BandError g_Missing g_Refused) TB rfl hmT huT hr (lamS_by (sc := defScope sLaw) (by decide +kernel)) rfl (fun _ _ _ _ _ => rfl) (fun A outer s H E f c' hr3 => pe_callX C_law_refused hr3 (by omega) (takes_of rfl rfl rfl rfl) (fun _ _ _ _ h => h) (by rfl) (pa_cons (pe_var (i := 3) rfl (.inr (.inr rfl))) pa_nil))))
 (pss_cons (ps_if (pt_not (pt_val (pe_callD C_law_like hr (by omega) (by rfl) (pa_cons (pe_lst (pa_cons (pe_ix ix_list (pv 7) pe_int (fun _ _ => rfl)) (pa_cons (pe_ix ix_list (pv 8) pe_int (fun _ _ => rfl)) (pa_cons (pe_ix ix_list (pv 9) pe_int (fun _ _ => rfl)) pa_nil)))) (pa_cons (pe_lst (pa_cons pe_str (pa_cons pe_str (pa_cons pe_str pa_nil)))) pa_nil))) (fun _ => rfl)))
 (pss_one (ps_ret pe_bl))
 pss_nil)
 (pss_one (ps_if (pt_not (pt_val (pe_callD C_law_like hr (by omega) (by rfl) (pa_cons (pe_lst (pa_cons (pe_xfv (pe_ix ix_list (pv 7) pe_int (fun _ _ => rfl))) (pa_cons (pe_xfv (pe_ix ix_list (pv 8) pe_int (fun _ _ => rfl))) (pa_cons (pe_xfv (pe_ix ix_list (pv 9) pe_int (fun _ _ => rfl))) pa_nil)))) (pa_cons (pe_lst (pa_cons (pe_var (i := 3) rfl (.inr (.inl rfl))) (pa_cons (pe_var (i := 3) rfl (.inr (.inl rfl))) (pa_cons (pe_var (i := 3) rfl (.inr (.inl rfl))) pa_nil)))) pa_nil))) (fun _ => rfl)))
 (pss_one (ps_ret pe_bl))
 pss_nil))))))))))))
 (pss_one (ps_ret pe_bl)))), ?_⟩
    obtain ⟨a, ns, rfl, hS, hl, hT, q⟩ := h
    refine ⟨.ref a, rfl, a, ns, rfl, hS, hl, fun H0 b s0 nb G0 => ?_⟩
    have T0 := hT.ext s0
    refine ⟨4, rfl, by decide, by decide, ?_⟩
    refine for_range (lo := 0) (n := 4) (fun i σ H' => Bag H' b ∧ Tabs (tT tP) H' ∧ ∃ z2 z3 z4 z5 z6 z7 z8 z9, σ = [some (.ref a), some (.ref b), z2, z3, z4, z5, z6, z7, z8, z9]) ⟨G0, T0, none, none, none, none, none, none, none, none, rfl⟩ ?_ fun σ H1 _ => q _
    · rintro i σ H2 hi ⟨G1, T1, z2, z3, z4, z5, z6, z7, z8, z9, rfl⟩
      -- x
      refine ⟨.ref b, rfl, .ref b, rfl, b, rfl, G1, fun H3 v1 d1 G3 B3 => ?_⟩
      refine ⟨.ref b, rfl, b, rfl, G3, fun H4 v2 d2 G4 B4 => ?_⟩
      refine ⟨.ref b, rfl, b, rfl, G4, fun H5 v3 d3 G5 B5 => ⟨(by show 3 ≤ sizeLine; decide), fun p np => ?_⟩⟩
      have npb : p ≠ b := fun e => by
        obtain ⟨o, ho⟩ := G5.there
        rw [e, ho] at np
        cases np
      have s6 := same_new (o := .lst [v1, v2, v3]) np
      have D1 := (d1.but (B4.trans B5)).but (Same.but s6)
      have D2 := (d2.but B5).but (Same.but s6)
      have D3 := d3.but (Same.but s6)
      have T6 := LamX.Tabs.ext (tabs_but G1 (B3.trans (B4.trans B5)) T1) s6
      have G6 := G5.same s6
      have h6 : (upd H5 p (.lst [v1, v2, v3])) p = some (.lst [v1, v2, v3]) := upd_same
      generalize upd H5 p (.lst [v1, v2, v3]) = H6 at s6 D1 D2 D3 T6 G6 h6 ⊢
      refine ⟨b, G6, .inl ⟨p, _, rfl, h6, npb, (fun e => nomatch e), (by show 3 ≤ 1000; decide), fun H7 x hx G7 B7 => ?_⟩⟩
      have Dx : Dat b H7 4 x := by
        simp only [List.mem_cons, List.not_mem_nil, or_false] at hx
        rcases hx with rfl | rfl | rfl
        · exact D1.but B7
        · exact D2.but B7
        · exact D3.but B7
      have T7 := tabs_but G6 B7 T6
      -- y
      refine ⟨.ref b, rfl, .ref b, rfl, b, rfl, G7, fun H8 w1 f1 G8 B8 => ?_⟩
      refine ⟨.ref b, rfl, b, 100, rfl, G8, by decide, by decide, fun H9 n n0 n1 G9 B9 => ?_⟩
      refine ⟨x, rfl, (by show 3 ≤ sizeLine; decide), fun p2 np2 => ?_⟩
      have npb2 : p2 ≠ b := fun e => by
        obtain ⟨o, ho⟩ := G9.there
        rw [e, ho] at np2
        cases np2
      have s10 := same_new (o := .lst [w1, .int n, x]) np2
      have F1 := (f1.but B9).but (Same.but s10)
      have Dx10 := (Dx.but (B8.trans B9)).but (Same.but s10)
      have T10 := LamX.Tabs.ext (tabs_but G7 (B8.trans B9) T7) s10
      have G10 := G9.same s10
      have h10 : (upd H9 p2 (.lst [w1, .int n, x])) p2 = some (.lst [w1, .int n, x]) := upd_same
      generalize upd H9 p2 (.lst [w1, .int n, x]) = H10 at s10 F1 Dx10 T10 G10 h10 ⊢
      refine ⟨b, G10, .inl ⟨p2, _, rfl, h10, npb2, (fun e => nomatch e), (by show 3 ≤ 1000; decide), fun H11 y hy G11 B11 => ?_⟩⟩
      have Dy : Dat b H11 4 y := by
        simp only [List.mem_cons, List.not_mem_nil, or_false] at hy
        rcases hy with rfl | rfl | rfl
        · exact F1.but B11
        · exact Dat.flat rfl
        · exact Dx10.but B11
      have Ex : Eqv H11 4 x x := (Dx10.but B11).eqv
      have Ey : Eqv H11 4 y y := Dy.eqv
      have T11 := tabs_but G10 B11 T10
      -- the rows
      refine made3 rfl rfl fun H12 q1 rows1 s12 h12 l12 R12 => ?_
      refine made3 rfl rfl fun H13 q2 rows2 s13 h13 l13 R13 => ?_
      have s1113 := s12.trans s13
      refine ⟨.ref q1, rfl, q1, rows1, rfl, .inl (.inl (.inl (s13 _ _ h12))), rfl, _, rfl, ?_⟩
      rw [l12]
      refine iteNS rfl ?_
      have Ex13 := Ex.same s1113
      have Ey13 := Ey.same s1113
      refine ⟨.ref q2, rfl, y, rfl, x, rfl, q2, y, x, rows2, rfl, h13, (by rw [l13]; decide), Ey13, Ex13, R13, fun H14 s14 => ⟨true, rfl, iteF ?_⟩⟩
      refine ⟨.ref q1, rfl, x, rfl, y, rfl, q1, x, y, rows1, rfl, s14 _ _ (s13 _ _ h12), (by rw [l12]; decide), Ex13.same s14, Ey13.same s14, (fun v hv => (R12 v hv).same (s13.trans s14)), fun H15 s15 => ⟨true, rfl, iteF ?_⟩⟩
      have s1115 := s1113.trans (s14.trans s15)
      have G15 := G11.same s1115
      have T15 := LamX.Tabs.ext T11 s1115
      have Ex15 := Ex.same s1115
      -- the lambdas
      refine seq_i (asg_i (lam_step (K := K) (l := l3 K) T15 rfl (pick1 X) fun H16 o1 a1 fs1 e16 T16 h16 r16 k16 => ?_))
      refine seq_i (asg_i (lam_step (K := K) (l := l3 K) T16 rfl (pick2 X) fun H17 o2 a2 fs2 e17 T17 h17 r17 k17 => ?_))
      refine seq_i (asg_i (lam_step (K := K) (l := l3 K) T17 rfl (pick3 X) fun H18 o3 a3 fs3 e18 T18 h18 r18 k18 => ?_))
      have h1 := ExtN.lst (e17.trans e18) h16
      have h2 := ExtN.lst e18 h17
      have r1 := r16.extN (e17.trans e18)
      have r2 := r17.extN e18
      have e1518 := e16.trans (e17.trans e18)
      have G18 := G15.extN e1518
      have Ex18 := Ex15.extN e1518
      refine rdL rfl h1 rfl (rdL rfl h2 rfl (rdL rfl h18 rfl ⟨(by show 3 ≤ sizeLine; decide), fun u1 m1 => ⟨(by show 3 ≤ sizeLine; decide), fun u2 m2 => ?_⟩⟩))
      have s19 := same_new (o := .lst [.str "BandError", .str "Missing", .str "Refused"]) m1
      have s20 := same_new (o := .lst [.str "BandError", .str "Missing", .str "Refused"]) m2
      refine ⟨.ref u1, .ref u2, rfl, eqv_strs (l := ["BandError", "Missing", "Refused"]) (by show 3 ≤ 100; decide) (s20 _ _ upd_same) upd_same, fun H21 s21 => ⟨true, rfl, iteF ?_⟩⟩
      have s1821 := s19.trans (s20.trans s21)
      refine rdL rfl (s1821 _ _ h1) rfl ⟨a1, _, fs1, x, rfl, xS, nS, r1.same s1821, k16, rdL rfl (s1821 _ _ h2) rfl ⟨a2, _, fs2, x, rfl, xU, nU, r2.same s1821, k17, rdL rfl (s1821 _ _ h18) rfl ⟨a3, _, fs3, x, rfl, xR, nR, r18.same s1821, k18, ?_⟩⟩⟩
      refine ⟨(by show 3 ≤ sizeLine; decide), fun u3 m3 => ⟨x, rfl, x, rfl, x, rfl, (by show 3 ≤ sizeLine; decide), fun u4 m4 => ?_⟩⟩
      have s22 := same_new (o := .lst [x, x, x]) m3
      have s23 := same_new (o := .lst [x, x, x]) m4
      have s1823 := s1821.trans (s22.trans s23)
      have Ex23 := Ex18.same s1823
      refine ⟨.ref u3, .ref u4, rfl, .inr ⟨u3, u4, _, _, rfl, rfl, .inl ⟨s23 _ _ upd_same, upd_same⟩, rfl, (by show 3 ≤ 100; decide), fun i v w hv hw => ?_⟩, fun H24 s24 => ⟨true, rfl, iteF ?_⟩⟩
      · have mv := List.mem_of_getElem? hv
        have mw := List.mem_of_getElem? hw
        simp only [List.mem_cons, List.not_mem_nil, or_false, or_self] at mv mw
        rw [mv, mw]
        exact Ex23
      · exact ⟨(G18.same s1823).same s24, LamX.Tabs.ext T18 (s1823.trans s24), _, _, _, _, _, _, _, _, rfl⟩
end
end K70
set_option maxRecDepth 100000
set_option maxHeartbeats 4000000
namespace K70
open PySem PySem.Spec PyProof.Rows L2 LamX
/-! ### the classes' __init__s -/
def initS (i : Nat) : Stmt := match topS i with
  | .ClassDef _ _ _ b _ _ _ _ _ _ _ => b.getD 0 (.Pass ⟨0, 0, 0, 0⟩)
  | _ => .Pass ⟨0, 0, 0, 0⟩
def wName (n m : Str) : Str := n ++ "." ++ m
section
variable {K : PySem.W.Frag} {x qual : Str} {params : Arguments} {body : List Stmt} {scope : Scope} {kws : List (Str × V)} {f : Addr} {fd : FuncData} {ps : List Str}
theorem bindsK (F : FunD K x qual params body scope [] kws f fd)
    (h : ∀ (kV doc pm : Value) (an : Option Addr) (cdv ct : Value) (a : Value) (us : List Value), us.length = ps.length → bindArgs (PySem.W.fnOf x qual params body scope .none kV doc pm an cdv ct) ⟨[a], ps.reverse.zip us⟩ = pure ((("self" : Str) :: ps).zip (a :: us.reverse)))
    (s : Shared) (a : Value) (us : List Value) (hl : us.length = ps.length) : BindsTo s fd ⟨[a], ps.reverse.zip us⟩ ((("self" : Str) :: ps).zip (a :: us.reverse)) := by
  obtain ⟨oc, od, dV, kV, doc, pm, an, cdv, ct, osl, rfl, lk, hcd, hD, hK⟩ := F.ex
  rcases hD with ⟨_, rfl⟩ | ⟨e, _⟩
  · exact .of_eq (h kV doc pm an cdv ct a us hl)
  · exact absurd rfl e
end
/-- what K says of a class and its __init__ -/
structure IniF (K : PySem.W.Frag) (mg : Str → Option Value) (nm : Str) (ps : List Str) : Prop where
  x : XC K (He.ga K nm)
  g : mg nm = some (.ref (He.ga K nm))
  no : ∀ f ∈ ps, PySem.W.findIn K (.ref (He.ga K nm)) f = some none
  fi : PySem.W.findIn K (.ref (He.ga K nm)) "__init__" = some (some (.ref (He.ma K (He.ga K nm) "__init__")))
  ty : PySem.W.typeIn K (.ref (He.ma K (He.ga K nm) "__init__")) = some (.type "function")
section
variable {P : Program} {w : World} {K : PySem.W.Frag} {mg : Str → Option Value} {base : Heap}
abbrev FunI (K : PySem.W.Frag) (nm : Str) (i : Nat) (fd : FuncData) : Prop := FunD K "__init__" (wName nm "__init__") (defArgs (initS i)) (defBody (initS i)) (defScope (initS i)) [] [] (He.ma K (He.ga K nm) "__init__") fd
theorem scI_BadAmount : FnScope ["self", "value"] ["self", "value"] (defScope (initS 2)) := ⟨rfl, rfl, rfl, by decide +kernel, rfl, by decide +kernel, by decide +kernel⟩
theorem ec_BadAmount {fd : FuncData} (F : FunI K "BadAmount" 2 fd) (I : IniF K mg "BadAmount" ["value"]) : EC P w K mg base "BadAmount" (He.ga K "BadAmount") ["value"] :=
  ⟨I.x, I.g, I.no, _, fd, I.fi, I.ty, ok_init1 F scI_BadAmount (by decide +kernel) (by decide +kernel), F.bindsN (fun _ _ _ _ _ _ us hl => match us, hl with | [_, _], _ => rfl), bindsK F fun _ _ _ _ _ _ _ us hl => match us, hl with | [_], _ => rfl⟩
theorem scI_BadLink : FnScope ["self", "what"] ["self", "what"] (defScope (initS 3)) := ⟨rfl, rfl, rfl, by decide +kernel, rfl, by decide +kernel, by decide +kernel⟩
theorem ec_BadLink {fd : FuncData} (F : FunI K "BadLink" 3 fd) (I : IniF K mg "BadLink" ["what"]) : EC P w K mg base "BadLink" (He.ga K "BadLink") ["what"] :=
  ⟨I.x, I.g, I.no, _, fd, I.fi, I.ty, ok_init1 F scI_BadLink (by decide +kernel) (by decide +kernel), F.bindsN (fun _ _ _ _ _ _ us hl => match us, hl with | [_, _], _ => rfl), bindsK F fun _ _ _ _ _ _ _ us hl => match us, hl with | [_], _ => rfl⟩
theorem scI_BadFlow : FnScope ["self", "what"] ["self", "what"] (defScope (initS 4)) := ⟨rfl, rfl, rfl, by decide +kernel, rfl, by decide +kernel, by decide +kernel⟩
theorem ec_BadFlow {fd : FuncData} (F : FunI K "BadFlow" 4 fd) (I : IniF K mg "BadFlow" ["what"]) : EC P w K mg base "BadFlow" (He.ga K "BadFlow") ["what"] :=
  ⟨I.x, I.g, I.no, _, fd, I.fi, I.ty, ok_init1 F scI_BadFlow (by decide +kernel) (by decide +kernel), F.bindsN (fun _ _ _ _ _ _ us hl => match us, hl with | [_, _], _ => rfl), bindsK F fun _ _ _ _ _ _ _ us hl => match us, hl with | [_], _ => rfl⟩
theorem scI_BadAge : FnScope ["self", "age"] ["self", "age"] (defScope (initS 5)) := ⟨rfl, rfl, rfl, by decide +kernel, rfl, by decide +kernel, by decide +kernel⟩
theorem ec_BadAge {fd : FuncData} (F : FunI K "BadAge" 5 fd) (I : IniF K mg "BadAge" ["age"]) : EC P w K mg base "BadAge" (He.ga K "BadAge") ["age"] :=
  ⟨I.x, I.g, I.no, _, fd, I.fi, I.ty, ok_init1 F scI_BadAge (by decide +kernel) (by decide +kernel), F.bindsN (fun _ _ _ _ _ _ us hl => match us, hl with | [_, _], _ => rfl), bindsK F fun _ _ _ _ _ _ _ us hl => match us, hl with | [_], _ => rfl⟩
theorem scI_BadPart : FnScope ["self", "at"] ["self", "at"] (defScope (initS 6)) := ⟨rfl, rfl, rfl, by decide +kernel, rfl, by decide +kernel, by decide +kernel⟩
theorem ec_BadPart {fd : FuncData} (F : FunI K "BadPart" 6 fd) (I : IniF K mg "BadPart" ["at"]) : EC P w K mg base "BadPart" (He.ga K "BadPart") ["at"] :=
  ⟨I.x, I.g, I.no, _, fd, I.fi, I.ty, ok_init1 F scI_BadPart (by decide +kernel) (by decide +kernel), F.bindsN (fun _ _ _ _ _ _ us hl => match us, hl with | [_, _], _ => rfl), bindsK F fun _ _ _ _ _ _ _ us hl => match us, hl with | [_], _ => rfl⟩
theorem scI_TooMany : FnScope ["self", "what", "count"] ["self", "what", "count"] (defScope (initS 7)) := ⟨rfl, rfl, rfl, by decide +kernel, rfl, by decide +kernel, by decide +kernel⟩
theorem ec_TooMany {fd : FuncData} (F : FunI K "TooMany" 7 fd) (I : IniF K mg "TooMany" ["what", "count"]) : EC P w K mg base "TooMany" (He.ga K "TooMany") ["what", "count"] :=
  ⟨I.x, I.g, I.no, _, fd, I.fi, I.ty, ok_init2 F scI_TooMany (by decide +kernel) (by decide +kernel) (by decide +kernel) (by decide +kernel) (by decide +kernel), F.bindsN (fun _ _ _ _ _ _ us hl => match us, hl with | [_, _, _], _ => rfl), bindsK F fun _ _ _ _ _ _ _ us hl => match us, hl with | [_, _], _ => rfl⟩
theorem scI_DuplicateName : FnScope ["self", "name"] ["self", "name"] (defScope (initS 8)) := ⟨rfl, rfl, rfl, by decide +kernel, rfl, by decide +kernel, by decide +kernel⟩
theorem ec_DuplicateName {fd : FuncData} (F : FunI K "DuplicateName" 8 fd) (I : IniF K mg "DuplicateName" ["name"]) : EC P w K mg base "DuplicateName" (He.ga K "DuplicateName") ["name"] :=
  ⟨I.x, I.g, I.no, _, fd, I.fi, I.ty, ok_init1 F scI_DuplicateName (by decide +kernel) (by decide +kernel), F.bindsN (fun _ _ _ _ _ _ us hl => match us, hl with | [_, _], _ => rfl), bindsK F fun _ _ _ _ _ _ _ us hl => match us, hl with | [_], _ => rfl⟩
theorem scI_Idle : FnScope ["self", "link"] ["self", "link"] (defScope (initS 9)) := ⟨rfl, rfl, rfl, by decide +kernel, rfl, by decide +kernel, by decide +kernel⟩
theorem ec_Idle {fd : FuncData} (F : FunI K "Idle" 9 fd) (I : IniF K mg "Idle" ["link"]) : EC P w K mg base "Idle" (He.ga K "Idle") ["link"] :=
  ⟨I.x, I.g, I.no, _, fd, I.fi, I.ty, ok_init1 F scI_Idle (by decide +kernel) (by decide +kernel), F.bindsN (fun _ _ _ _ _ _ us hl => match us, hl with | [_, _], _ => rfl), bindsK F fun _ _ _ _ _ _ _ us hl => match us, hl with | [_], _ => rfl⟩
theorem scI_Overpromised : FnScope ["self", "link", "over"] ["self", "link", "over"] (defScope (initS 10)) := ⟨rfl, rfl, rfl, by decide +kernel, rfl, by decide +kernel, by decide +kernel⟩
theorem ec_Overpromised {fd : FuncData} (F : FunI K "Overpromised" 10 fd) (I : IniF K mg "Overpromised" ["link", "over"]) : EC P w K mg base "Overpromised" (He.ga K "Overpromised") ["link", "over"] :=
  ⟨I.x, I.g, I.no, _, fd, I.fi, I.ty, ok_init2 F scI_Overpromised (by decide +kernel) (by decide +kernel) (by decide +kernel) (by decide +kernel) (by decide +kernel), F.bindsN (fun _ _ _ _ _ _ us hl => match us, hl with | [_, _, _], _ => rfl), bindsK F fun _ _ _ _ _ _ _ us hl => match us, hl with | [_, _], _ => rfl⟩
theorem scI_Small : FnScope ["self", "flow", "link"] ["self", "flow", "link"] (defScope (initS 11)) := ⟨rfl, rfl, rfl, by decide +kernel, rfl, by decide +kernel, by decide +kernel⟩
theorem ec_Small {fd : FuncData} (F : FunI K "Small" 11 fd) (I : IniF K mg "Small" ["flow", "link"]) : EC P w K mg base "Small" (He.ga K "Small") ["flow", "link"] :=
  ⟨I.x, I.g, I.no, _, fd, I.fi, I.ty, ok_init2 F scI_Small (by decide +kernel) (by decide +kernel) (by decide +kernel) (by decide +kernel) (by decide +kernel), F.bindsN (fun _ _ _ _ _ _ us hl => match us, hl with | [_, _, _], _ => rfl), bindsK F fun _ _ _ _ _ _ _ us hl => match us, hl with | [_, _], _ => rfl⟩
theorem scI_BadText : FnScope ["self", "line", "word"] ["self", "line", "word"] (defScope (initS 12)) := ⟨rfl, rfl, rfl, by decide +kernel, rfl, by decide +kernel, by decide +kernel⟩
theorem ec_BadText {fd : FuncData} (F : FunI K "BadText" 12 fd) (I : IniF K mg "BadText" ["line", "word"]) : EC P w K mg base "BadText" (He.ga K "BadText") ["line", "word"] :=
  ⟨I.x, I.g, I.no, _, fd, I.fi, I.ty, ok_init2 F scI_BadText (by decide +kernel) (by decide +kernel) (by decide +kernel) (by decide +kernel) (by decide +kernel), F.bindsN (fun _ _ _ _ _ _ us hl => match us, hl with | [_, _, _], _ => rfl), bindsK F fun _ _ _ _ _ _ _ us hl => match us, hl with | [_, _], _ => rfl⟩
theorem scI_BadManner : FnScope ["self", "flow"] ["self", "flow"] (defScope (initS 13)) := ⟨rfl, rfl, rfl, by decide +kernel, rfl, by decide +kernel, by decide +kernel⟩
theorem ec_BadManner {fd : FuncData} (F : FunI K "BadManner" 13 fd) (I : IniF K mg "BadManner" ["flow"]) : EC P w K mg base "BadManner" (He.ga K "BadManner") ["flow"] :=
  ⟨I.x, I.g, I.no, _, fd, I.fi, I.ty, ok_init1 F scI_BadManner (by decide +kernel) (by decide +kernel), F.bindsN (fun _ _ _ _ _ _ us hl => match us, hl with | [_, _], _ => rfl), bindsK F fun _ _ _ _ _ _ _ us hl => match us, hl with | [_], _ => rfl⟩
theorem scI_BadCapacity : FnScope ["self", "link"] ["self", "link"] (defScope (initS 14)) := ⟨rfl, rfl, rfl, by decide +kernel, rfl, by decide +kernel, by decide +kernel⟩
theorem ec_BadCapacity {fd : FuncData} (F : FunI K "BadCapacity" 14 fd) (I : IniF K mg "BadCapacity" ["link"]) : EC P w K mg base "BadCapacity" (He.ga K "BadCapacity") ["link"] :=
  ⟨I.x, I.g, I.no, _, fd, I.fi, I.ty, ok_init1 F scI_BadCapacity (by decide +kernel) (by decide +kernel), F.bindsN (fun _ _ _ _ _ _ us hl => match us, hl with | [_, _], _ => rfl), bindsK F fun _ _ _ _ _ _ _ us hl => match us, hl with | [_], _ => rfl⟩
theorem scI_BadSharing : FnScope ["self", "name"] ["self", "name"] (defScope (initS 15)) := ⟨rfl, rfl, rfl, by decide +kernel, rfl, by decide +kernel, by decide +kernel⟩
theorem ec_BadSharing {fd : FuncData} (F : FunI K "BadSharing" 15 fd) (I : IniF K mg "BadSharing" ["name"]) : EC P w K mg base "BadSharing" (He.ga K "BadSharing") ["name"] :=
  ⟨I.x, I.g, I.no, _, fd, I.fi, I.ty, ok_init1 F scI_BadSharing (by decide +kernel) (by decide +kernel), F.bindsN (fun _ _ _ _ _ _ us hl => match us, hl with | [_, _], _ => rfl), bindsK F fun _ _ _ _ _ _ _ us hl => match us, hl with | [_], _ => rfl⟩
theorem scI_BadBand : FnScope ["self", "link"] ["self", "link"] (defScope (initS 16)) := ⟨rfl, rfl, rfl, by decide +kernel, rfl, by decide +kernel, by decide +kernel⟩
theorem ec_BadBand {fd : FuncData} (F : FunI K "BadBand" 16 fd) (I : IniF K mg "BadBand" ["link"]) : EC P w K mg base "BadBand" (He.ga K "BadBand") ["link"] :=
  ⟨I.x, I.g, I.no, _, fd, I.fi, I.ty, ok_init1 F scI_BadBand (by decide +kernel) (by decide +kernel), F.bindsN (fun _ _ _ _ _ _ us hl => match us, hl with | [_, _], _ => rfl), bindsK F fun _ _ _ _ _ _ _ us hl => match us, hl with | [_], _ => rfl⟩
theorem scI_Future : FnScope ["self", "tick"] ["self", "tick"] (defScope (initS 18)) := ⟨rfl, rfl, rfl, by decide +kernel, rfl, by decide +kernel, by decide +kernel⟩
theorem ec_Future {fd : FuncData} (F : FunI K "Future" 18 fd) (I : IniF K mg "Future" ["tick"]) : EC P w K mg base "Future" (He.ga K "Future") ["tick"] :=
  ⟨I.x, I.g, I.no, _, fd, I.fi, I.ty, ok_init1 F scI_Future (by decide +kernel) (by decide +kernel), F.bindsN (fun _ _ _ _ _ _ us hl => match us, hl with | [_, _], _ => rfl), bindsK F fun _ _ _ _ _ _ _ us hl => match us, hl with | [_], _ => rfl⟩
theorem scI_Short : FnScope ["self", "amount"] ["self", "amount"] (defScope (initS 19)) := ⟨rfl, rfl, rfl, by decide +kernel, rfl, by decide +kernel, by decide +kernel⟩
theorem ec_Short {fd : FuncData} (F : FunI K "Short" 19 fd) (I : IniF K mg "Short" ["amount"]) : EC P w K mg base "Short" (He.ga K "Short") ["amount"] :=
  ⟨I.x, I.g, I.no, _, fd, I.fi, I.ty, ok_init1 F scI_Short (by decide +kernel) (by decide +kernel), F.bindsN (fun _ _ _ _ _ _ us hl => match us, hl with | [_, _], _ => rfl), bindsK F fun _ _ _ _ _ _ _ us hl => match us, hl with | [_], _ => rfl⟩
theorem scI_BadValue : FnScope ["self", "channel"] ["self", "channel"] (defScope (initS 20)) := ⟨rfl, rfl, rfl, by decide +kernel, rfl, by decide +kernel, by decide +kernel⟩
theorem ec_BadValue {fd : FuncData} (F : FunI K "BadValue" 20 fd) (I : IniF K mg "BadValue" ["channel"]) : EC P w K mg base "BadValue" (He.ga K "BadValue") ["channel"] :=
  ⟨I.x, I.g, I.no, _, fd, I.fi, I.ty, ok_init1 F scI_BadValue (by decide +kernel) (by decide +kernel), F.bindsN (fun _ _ _ _ _ _ us hl => match us, hl with | [_, _], _ => rfl), bindsK F fun _ _ _ _ _ _ _ us hl => match us, hl with | [_], _ => rfl⟩
theorem scI_BadState : FnScope ["self", "what", "at"] ["self", "what", "at"] (defScope (initS 21)) := ⟨rfl, rfl, rfl, by decide +kernel, rfl, by decide +kernel, by decide +kernel⟩
theorem ec_BadState {fd : FuncData} (F : FunI K "BadState" 21 fd) (I : IniF K mg "BadState" ["what", "at"]) : EC P w K mg base "BadState" (He.ga K "BadState") ["what", "at"] :=
  ⟨I.x, I.g, I.no, _, fd, I.fi, I.ty, ok_init2 F scI_BadState (by decide +kernel) (by decide +kernel) (by decide +kernel) (by decide +kernel) (by decide +kernel), F.bindsN (fun _ _ _ _ _ _ us hl => match us, hl with | [_, _, _], _ => rfl), bindsK F fun _ _ _ _ _ _ _ us hl => match us, hl with | [_, _], _ => rfl⟩
theorem scI_BadCount : FnScope ["self", "value"] ["self", "value"] (defScope (initS 22)) := ⟨rfl, rfl, rfl, by decide +kernel, rfl, by decide +kernel, by decide +kernel⟩
theorem ec_BadCount {fd : FuncData} (F : FunI K "BadCount" 22 fd) (I : IniF K mg "BadCount" ["value"]) : EC P w K mg base "BadCount" (He.ga K "BadCount") ["value"] :=
  ⟨I.x, I.g, I.no, _, fd, I.fi, I.ty, ok_init1 F scI_BadCount (by decide +kernel) (by decide +kernel), F.bindsN (fun _ _ _ _ _ _ us hl => match us, hl with | [_, _], _ => rfl), bindsK F fun _ _ _ _ _ _ _ us hl => match us, hl with | [_], _ => rfl⟩
theorem scI_BadDeed : FnScope ["self", "at"] ["self", "at"] (defScope (initS 23)) := ⟨rfl, rfl, rfl, by decide +kernel, rfl, by decide +kernel, by decide +kernel⟩
theorem ec_BadDeed {fd : FuncData} (F : FunI K "BadDeed" 23 fd) (I : IniF K mg "BadDeed" ["at"]) : EC P w K mg base "BadDeed" (He.ga K "BadDeed") ["at"] :=
  ⟨I.x, I.g, I.no, _, fd, I.fi, I.ty, ok_init1 F scI_BadDeed (by decide +kernel) (by decide +kernel), F.bindsN (fun _ _ _ _ _ _ us hl => match us, hl with | [_, _], _ => rfl), bindsK F fun _ _ _ _ _ _ _ us hl => match us, hl with | [_], _ => rfl⟩
theorem scI_UnknownName : FnScope ["self", "name"] ["self", "name"] (defScope (initS 25)) := ⟨rfl, rfl, rfl, by decide +kernel, rfl, by decide +kernel, by decide +kernel⟩
theorem ec_UnknownName {fd : FuncData} (F : FunI K "UnknownName" 25 fd) (I : IniF K mg "UnknownName" ["name"]) : EC P w K mg base "UnknownName" (He.ga K "UnknownName") ["name"] :=
  ⟨I.x, I.g, I.no, _, fd, I.fi, I.ty, ok_init1 F scI_UnknownName (by decide +kernel) (by decide +kernel), F.bindsN (fun _ _ _ _ _ _ us hl => match us, hl with | [_, _], _ => rfl), bindsK F fun _ _ _ _ _ _ _ us hl => match us, hl with | [_], _ => rfl⟩
theorem scI_UnknownChannel : FnScope ["self", "channel"] ["self", "channel"] (defScope (initS 26)) := ⟨rfl, rfl, rfl, by decide +kernel, rfl, by decide +kernel, by decide +kernel⟩
theorem ec_UnknownChannel {fd : FuncData} (F : FunI K "UnknownChannel" 26 fd) (I : IniF K mg "UnknownChannel" ["channel"]) : EC P w K mg base "UnknownChannel" (He.ga K "UnknownChannel") ["channel"] :=
  ⟨I.x, I.g, I.no, _, fd, I.fi, I.ty, ok_init1 F scI_UnknownChannel (by decide +kernel) (by decide +kernel), F.bindsN (fun _ _ _ _ _ _ us hl => match us, hl with | [_, _], _ => rfl), bindsK F fun _ _ _ _ _ _ _ us hl => match us, hl with | [_], _ => rfl⟩
theorem scI_UnknownHop : FnScope ["self", "hop"] ["self", "hop"] (defScope (initS 27)) := ⟨rfl, rfl, rfl, by decide +kernel, rfl, by decide +kernel, by decide +kernel⟩
theorem ec_UnknownHop {fd : FuncData} (F : FunI K "UnknownHop" 27 fd) (I : IniF K mg "UnknownHop" ["hop"]) : EC P w K mg base "UnknownHop" (He.ga K "UnknownHop") ["hop"] :=
  ⟨I.x, I.g, I.no, _, fd, I.fi, I.ty, ok_init1 F scI_UnknownHop (by decide +kernel) (by decide +kernel), F.bindsN (fun _ _ _ _ _ _ us hl => match us, hl with | [_, _], _ => rfl), bindsK F fun _ _ _ _ _ _ _ us hl => match us, hl with | [_], _ => rfl⟩
theorem scI_NoSuchLetter : FnScope ["self", "number"] ["self", "number"] (defScope (initS 28)) := ⟨rfl, rfl, rfl, by decide +kernel, rfl, by decide +kernel, by decide +kernel⟩
theorem ec_NoSuchLetter {fd : FuncData} (F : FunI K "NoSuchLetter" 28 fd) (I : IniF K mg "NoSuchLetter" ["number"]) : EC P w K mg base "NoSuchLetter" (He.ga K "NoSuchLetter") ["number"] :=
  ⟨I.x, I.g, I.no, _, fd, I.fi, I.ty, ok_init1 F scI_NoSuchLetter (by decide +kernel) (by decide +kernel), F.bindsN (fun _ _ _ _ _ _ us hl => match us, hl with | [_, _], _ => rfl), bindsK F fun _ _ _ _ _ _ _ us hl => match us, hl with | [_], _ => rfl⟩
theorem scI_NoSuchTick : FnScope ["self", "tick"] ["self", "tick"] (defScope (initS 29)) := ⟨rfl, rfl, rfl, by decide +kernel, rfl, by decide +kernel, by decide +kernel⟩
theorem ec_NoSuchTick {fd : FuncData} (F : FunI K "NoSuchTick" 29 fd) (I : IniF K mg "NoSuchTick" ["tick"]) : EC P w K mg base "NoSuchTick" (He.ga K "NoSuchTick") ["tick"] :=
  ⟨I.x, I.g, I.no, _, fd, I.fi, I.ty, ok_init1 F scI_NoSuchTick (by decide +kernel) (by decide +kernel), F.bindsN (fun _ _ _ _ _ _ us hl => match us, hl with | [_, _], _ => rfl), bindsK F fun _ _ _ _ _ _ _ us hl => match us, hl with | [_], _ => rfl⟩
theorem scI_Started : FnScope ["self", "tick"] ["self", "tick"] (defScope (initS 31)) := ⟨rfl, rfl, rfl, by decide +kernel, rfl, by decide +kernel, by decide +kernel⟩
theorem ec_Started {fd : FuncData} (F : FunI K "Started" 31 fd) (I : IniF K mg "Started" ["tick"]) : EC P w K mg base "Started" (He.ga K "Started") ["tick"] :=
  ⟨I.x, I.g, I.no, _, fd, I.fi, I.ty, ok_init1 F scI_Started (by decide +kernel) (by decide +kernel), F.bindsN (fun _ _ _ _ _ _ us hl => match us, hl with | [_, _], _ => rfl), bindsK F fun _ _ _ _ _ _ _ us hl => match us, hl with | [_], _ => rfl⟩
theorem scI_NotStrange : FnScope ["self", "name"] ["self", "name"] (defScope (initS 32)) := ⟨rfl, rfl, rfl, by decide +kernel, rfl, by decide +kernel, by decide +kernel⟩
theorem ec_NotStrange {fd : FuncData} (F : FunI K "NotStrange" 32 fd) (I : IniF K mg "NotStrange" ["name"]) : EC P w K mg base "NotStrange" (He.ga K "NotStrange") ["name"] :=
  ⟨I.x, I.g, I.no, _, fd, I.fi, I.ty, ok_init1 F scI_NotStrange (by decide +kernel) (by decide +kernel), F.bindsN (fun _ _ _ _ _ _ us hl => match us, hl with | [_, _], _ => rfl), bindsK F fun _ _ _ _ _ _ _ us hl => match us, hl with | [_], _ => rfl⟩
theorem scI_NotShaky : FnScope ["self", "link"] ["self", "link"] (defScope (initS 33)) := ⟨rfl, rfl, rfl, by decide +kernel, rfl, by decide +kernel, by decide +kernel⟩
theorem ec_NotShaky {fd : FuncData} (F : FunI K "NotShaky" 33 fd) (I : IniF K mg "NotShaky" ["link"]) : EC P w K mg base "NotShaky" (He.ga K "NotShaky") ["link"] :=
  ⟨I.x, I.g, I.no, _, fd, I.fi, I.ty, ok_init1 F scI_NotShaky (by decide +kernel) (by decide +kernel), F.bindsN (fun _ _ _ _ _ _ us hl => match us, hl with | [_, _], _ => rfl), bindsK F fun _ _ _ _ _ _ _ us hl => match us, hl with | [_], _ => rfl⟩
theorem scI_Unseen : FnScope ["self", "flow"] ["self", "flow"] (defScope (initS 34)) := ⟨rfl, rfl, rfl, by decide +kernel, rfl, by decide +kernel, by decide +kernel⟩
theorem ec_Unseen {fd : FuncData} (F : FunI K "Unseen" 34 fd) (I : IniF K mg "Unseen" ["flow"]) : EC P w K mg base "Unseen" (He.ga K "Unseen") ["flow"] :=
  ⟨I.x, I.g, I.no, _, fd, I.fi, I.ty, ok_init1 F scI_Unseen (by decide +kernel) (by decide +kernel), F.bindsN (fun _ _ _ _ _ _ us hl => match us, hl with | [_, _], _ => rfl), bindsK F fun _ _ _ _ _ _ _ us hl => match us, hl with | [_], _ => rfl⟩
/-- where each stands -/
def inits : List (Str × Nat) := [("BadAmount", 2), ("BadLink", 3), ("BadFlow", 4), ("BadAge", 5), ("BadPart", 6), ("TooMany", 7), ("DuplicateName", 8), ("Idle", 9), ("Overpromised", 10), ("Small", 11), ("BadText", 12), ("BadManner", 13), ("BadCapacity", 14), ("BadSharing", 15), ("BadBand", 16), ("Future", 18), ("Short", 19), ("BadValue", 20), ("BadState", 21), ("BadCount", 22), ("BadDeed", 23), ("UnknownName", 25), ("UnknownChannel", 26), ("UnknownHop", 27), ("NoSuchLetter", 28), ("NoSuchTick", 29), ("Started", 31), ("NotStrange", 32), ("NotShaky", 33), ("Unseen", 34)]
theorem ec_all (hI : ∀ q ∈ errTab, IniF K mg q.1 q.2) (hF : ∀ q ∈ inits, ∃ fd, FunI K q.1 q.2 fd) : ∀ q ∈ errTab, EC P w K mg base q.1 (He.ga K q.1) q.2 :=
  List.forall_mem_cons.mpr ⟨(hF ("BadAmount", 2) (by decide +kernel)).elim fun fd F => ec_BadAmount F (hI ("BadAmount", ["value"]) (by decide +kernel)),
    List.forall_mem_cons.mpr ⟨(hF ("BadLink", 3) (by decide +kernel)).elim fun fd F => ec_BadLink F (hI ("BadLink", ["what"]) (by decide +kernel)),
    List.forall_mem_cons.mpr ⟨(hF ("BadFlow", 4) (by decide +kernel)).elim fun fd F => ec_BadFlow F (hI ("BadFlow", ["what"]) (by decide +kernel)),
    List.forall_mem_cons.mpr ⟨(hF ("BadAge", 5) (by decide +kernel)).elim fun fd F => ec_BadAge F (hI ("BadAge", ["age"]) (by decide +kernel)),
    List.forall_mem_cons.mpr ⟨(hF ("BadPart", 6) (by decide +kernel)).elim fun fd F => ec_BadPart F (hI ("BadPart", ["at"]) (by decide +kernel)),
    List.forall_mem_cons.mpr ⟨(hF ("TooMany", 7) (by decide +kernel)).elim fun fd F => ec_TooMany F (hI ("TooMany", ["what", "count"]) (by decide +kernel)),
    List.forall_mem_cons.mpr ⟨(hF ("DuplicateName", 8) (by decide +kernel)).elim fun fd F => ec_DuplicateName F (hI ("DuplicateName", ["name"]) (by decide +kernel)),
    List.forall_mem_cons.mpr ⟨(hF ("Idle", 9) (by decide +kernel)).elim fun fd F => ec_Idle F (hI ("Idle", ["link"]) (by decide +kernel)),
    List.forall_mem_cons.mpr ⟨(hF ("Overpromised", 10) (by decide +kernel)).elim fun fd F => ec_Overpromised F (hI ("Overpromised", ["link", "over"]) (by decide +kernel)),
    List.forall_mem_cons.mpr ⟨(hF ("Small", 11) (by decide +kernel)).elim fun fd F => ec_Small F (hI ("Small", ["flow", "link"]) (by decide +kernel)),
    List.forall_mem_cons.mpr ⟨(hF ("BadText", 12) (by decide +kernel)).elim fun fd F => ec_BadText F (hI ("BadText", ["line", "word"]) (by decide +kernel)),
    List.forall_mem_cons.mpr ⟨(hF ("BadManner", 13) (by decide +kernel)).elim fun fd F => ec_BadManner F (hI ("BadManner", ["flow"]) (by decide +kernel)),
    List.forall_mem_cons.mpr ⟨(hF ("BadCapacity", 14) (by decide +kernel)).elim fun fd F => ec_BadCapacity F (hI ("BadCapacity", ["link"]) (by decide +kernel)),
    List.forall_mem_cons.mpr ⟨(hF ("BadSharing", 15) (by decide +kernel)).elim fun fd F => ec_BadSharing F (hI ("BadSharing", ["name"]) (by decide +kernel)),
    List.forall_mem_cons.mpr ⟨(hF ("BadBand", 16) (by decide +kernel)).elim fun fd F => ec_BadBand F (hI ("BadBand", ["link"]) (by decide +kernel)),
    List.forall_mem_cons.mpr ⟨(hF ("Future", 18) (by decide +kernel)).elim fun fd F => ec_Future F (hI ("Future", ["tick"]) (by decide +kernel)),
    List.forall_mem_cons.mpr ⟨(hF ("Short", 19) (by decide +kernel)).elim fun fd F => ec_Short F (hI ("Short", ["amount"]) (by decide +kernel)),
    List.forall_mem_cons.mpr ⟨(hF ("BadValue", 20) (by decide +kernel)).elim fun fd F => ec_BadValue F (hI ("BadValue", ["channel"]) (by decide +kernel)),
    List.forall_mem_cons.mpr ⟨(hF ("BadState", 21) (by decide +kernel)).elim fun fd F => ec_BadState F (hI ("BadState", ["what", "at"]) (by decide +kernel)),
    List.forall_mem_cons.mpr ⟨(hF ("BadCount", 22) (by decide +kernel)).elim fun fd F => ec_BadCount F (hI ("BadCount", ["value"]) (by decide +kernel)),
    List.forall_mem_cons.mpr ⟨(hF ("BadDeed", 23) (by decide +kernel)).elim fun fd F => ec_BadDeed F (hI ("BadDeed", ["at"]) (by decide +kernel)),
    List.forall_mem_cons.mpr ⟨(hF ("UnknownName", 25) (by decide +kernel)).elim fun fd F => ec_UnknownName F (hI ("UnknownName", ["name"]) (by decide +kernel)),
    List.forall_mem_cons.mpr ⟨(hF ("UnknownChannel", 26) (by decide +kernel)).elim fun fd F => ec_UnknownChannel F (hI ("UnknownChannel", ["channel"]) (by decide +kernel)),
    List.forall_mem_cons.mpr ⟨(hF ("UnknownHop", 27) (by decide +kernel)).elim fun fd F => ec_UnknownHop F (hI ("UnknownHop", ["hop"]) (by decide +kernel)),
    List.forall_mem_cons.mpr ⟨(hF ("NoSuchLetter", 28) (by decide +kernel)).elim fun fd F => ec_NoSuchLetter F (hI ("NoSuchLetter", ["number"]) (by decide +kernel)),
    List.forall_mem_cons.mpr ⟨(hF ("NoSuchTick", 29) (by decide +kernel)).elim fun fd F => ec_NoSuchTick F (hI ("NoSuchTick", ["tick"]) (by decide +kernel)),
    List.forall_mem_cons.mpr ⟨(hF ("Started", 31) (by decide +kernel)).elim fun fd F => ec_Started F (hI ("Started", ["tick"]) (by decide +kernel)),
    List.forall_mem_cons.mpr ⟨(hF ("NotStrange", 32) (by decide +kernel)).elim fun fd F => ec_NotStrange F (hI ("NotStrange", ["name"]) (by decide +kernel)),
    List.forall_mem_cons.mpr ⟨(hF ("NotShaky", 33) (by decide +kernel)).elim fun fd F => ec_NotShaky F (hI ("NotShaky", ["link"]) (by decide +kernel)),
    List.forall_mem_cons.mpr ⟨(hF ("Unseen", 34) (by decide +kernel)).elim fun fd F => ec_Unseen F (hI ("Unseen", ["flow"]) (by decide +kernel)),
    fun _ h => nomatch h⟩⟩⟩⟩⟩⟩⟩⟩⟩⟩⟩⟩⟩⟩⟩⟩⟩⟩⟩⟩⟩⟩⟩⟩⟩⟩⟩⟩⟩⟩
end
/-! ### facts by names -/
def tops : List (Str × Nat) := [("_law_bag", 36), ("_law_draw", 37), ("_law_wide", 38), ("_law_of", 39), ("_law_like", 40), ("_law_pair", 41), ("_law_great", 42), ("_law_amount", 43), ("_law_odd", 44), ("_law_word", 45), ("_law_known", 46), ("_law_first_ones", 47), ("_law_middle_ones", 48), ("_law_last_ones", 49), ("_law_first_made", 50), ("_law_middle_made", 51), ("_law_last_made", 52), ("_law_taken", 53), ("_law_thrown", 54), ("_law_missed", 55), ("_law_refused", 56), ("_law_rows_so", 57), ("law", 58)]
def dTop (q : Str × Nat) : He.DefD := ⟨(q.1, none), q.1, q.1, defArgs (topS q.2), defBody (topS q.2), defScope (topS q.2), [], []⟩
def dInit (q : Str × Nat) : He.DefD := ⟨(q.1, some "__init__"), "__init__", wName q.1 "__init__", defArgs (initS q.2), defBody (initS q.2), defScope (initS q.2), [], []⟩
def fn : List He.DefD := tops.map dTop ++ inits.map dInit
def blNames : List Str := (["int", "list", "len", "isinstance", "all", "zip", "sorted", "range", "max", "tuple", "str", "bool", "ValueError", "LookupError", "RuntimeError"] : List String).map PySem.Str.ofString
def gloNames : List Str := ownNames ++ tops.map (·.1)
def exmF : List He.Fa := [.exm "Short" "BandError" true, .exm "UnknownHop" "BandError" false, .exm "UnknownHop" "Missing" true, .exm "Started" "BandError" false, .exm "Started" "Missing" false, .exm "Started" "Refused" true]
def fa : List He.Fa := gloNames.map He.Fa.glo ++ (blNames.map He.Fa.free ++ exmF)
def leB : List Value := [.type "LookupError", .type "Exception", .type "BaseException", .type "object"]
def reB : List Value := [.type "RuntimeError", .type "Exception", .type "BaseException", .type "object"]
def baseB (K : PySem.W.Frag) (C : Addr) : Bool := (PySem.W.excInitIn K C He.veBase "ValueError.__new__" && PySem.W.excOver K C He.veBase) || ((PySem.W.excInitIn K C leB "LookupError.__new__" && PySem.W.excOver K C leB) || (PySem.W.excInitIn K C reB "RuntimeError.__new__" && PySem.W.excOver K C reB))
def xcB (K : PySem.W.Frag) (C : Addr) : Bool := baseB K C && (He.eqO (PySem.W.findIn K (.ref C) "__setattr__") (some (some (.builtin "object.__setattr__"))) && (He.eqO (PySem.W.findIn K (.ref C) "__getattribute__") (some (some (.builtin "BaseException.__getattribute__"))) &&
  (He.eqO (PySem.W.findIn K (.ref C) "__getattr__") (some none) && (He.eqO (PySem.W.findIn K (.ref C) "__class__") (some (some (.builtin "object.__class__"))) && (decide (PySem.W.mroIn K C (.type "object") = some true) &&
  (decide (PySem.W.subIn K (.ref C) (.type "BaseException") = some true) && (decide (PySem.W.typeIn K (.ref C) = some (.type "type")) && (PySem.W.keepIn K (.ref C) && PySem.W.hasDictIn K C))))))))
def dscB (K : PySem.W.Frag) : Bool := He.eqO (PySem.W.specialIn K (.builtin "object.__class__") "__get__") (some (some (.builtin "getset_descriptor.__get__"))) && decide (PySem.W.takesIn K (.builtin "object.__class__") = some true)
theorem xc_of {K : PySem.W.Frag} {C : Addr} (h : xcB K C = true) (hd : dscB K = true) : XC K C := by
  obtain ⟨h1, h⟩ := He.ba h
  obtain ⟨h2, h⟩ := He.ba h
  obtain ⟨h3, h⟩ := He.ba h
  obtain ⟨h4, h⟩ := He.ba h
  obtain ⟨h5, h⟩ := He.ba h
  obtain ⟨h6, h⟩ := He.ba h
  obtain ⟨h7, h⟩ := He.ba h
  obtain ⟨h8, h⟩ := He.ba h
  obtain ⟨h9, h10⟩ := He.ba h
  obtain ⟨d1, d2⟩ := He.ba hd
  have key : (∃ (B newId initId : String) (bmB : List Value), ExcBaseFacts B newId initId bmB ∧ PySem.W.excInitIn K C bmB newId = true) ∧ ∃ (B : String) (bmB : List Value), StoreFacts B bmB "object.__setattr__" "object" ∧ PySem.W.excOver K C bmB = true := by
    rcases Bool.or_eq_true_iff.mp h1 with k | k
    · obtain ⟨k1, k2⟩ := He.ba k
      exact ⟨⟨_, _, _, _, PySem.F.excBase_ValueError, k1⟩, _, _, PySem.F.store_ValueError, k2⟩
    · rcases Bool.or_eq_true_iff.mp k with k | k
      · obtain ⟨k1, k2⟩ := He.ba k
        exact ⟨⟨_, _, _, _, PySem.F.excBase_LookupError, k1⟩, _, _, PySem.F.store_LookupError, k2⟩
      · obtain ⟨k1, k2⟩ := He.ba k
        exact ⟨⟨_, _, _, _, PySem.F.excBase_RuntimeError, k1⟩, _, _, PySem.F.store_RuntimeError, k2⟩
  exact ⟨key.1, key.2, He.eqO_ok h2, He.eqO_ok h3, He.eqO_ok h4, He.eqO_ok h5, He.eqO_ok d1, of_decide_eq_true d2, of_decide_eq_true h6, of_decide_eq_true h7, of_decide_eq_true h8, h9, h10⟩
def iniB (K : PySem.W.Frag) (q : Str × List Str) : Bool := (q.2.all fun f => He.eqO (PySem.W.findIn K (.ref (He.ga K q.1)) f) (some none)) && (He.eqO (PySem.W.findIn K (.ref (He.ga K q.1)) "__init__") (some (some (.ref (He.ma K (He.ga K q.1) "__init__")))) &&
  decide (PySem.W.typeIn K (.ref (He.ma K (He.ga K q.1) "__init__")) = some (.type "function")))
def kitB2 (K : PySem.W.Frag) (q : Str × Str × Str) : Bool := (ownNames.all fun n => decide (PySem.W.kitOne K (.ref (He.ga K q.1)) (.ref (He.ga K n)) = some (decide (n = q.1 ∨ n = q.2.1)))) &&
  ((["ValueError", "LookupError", "RuntimeError"] : List String).all fun n => decide (PySem.W.kitOne K (.ref (He.ga K q.1)) (.type n) = some (decide (PySem.Str.ofString n = q.2.2))))
def exK (K : PySem.W.Frag) : Bool := (errs3.all fun q => xcB K (He.ga K q.1)) && (dscB K && ((errTab.all fun q => iniB K q) && ((errs3.all fun q => kitB2 K q) && (PySem.W.excIn K (He.ga K "NotPlain") He.veBase "ValueError.__new__" && PySem.W.keepIn K (.ref (He.ga K "NotPlain"))))))
theorem errTab_in : ∀ q ∈ errTab, q.1 ∈ errs3.map (·.1) := by decide +kernel
theorem errs_own : ∀ q ∈ errs3, q.1 ∈ ownNames := by decide +kernel
theorem tab_own : ∀ q ∈ errTab, q.1 ∈ ownNames := by decide +kernel
abbrev lawP : He.Defn := ("law", none)
theorem facts {w : World} {K : PySem.W.Frag} {h : Heap} {mg : Str → Option Value} (X : K.In h) (G : h.Ns mainGlobals mg) (c : He.SaysX fa fn [] [lawP] exK w h K) :
    ∃ fd : FuncData, (∀ (s : Shared) (u : Value), BindsTo s fd ⟨[u], []⟩ [("_law_script", u)]) ∧
      ∀ base : Heap, TabB base mg (He.cT K lawP).1 (He.cT K lawP).2 → FnOk (PySem.Challenge.rw_bandheld_k70_errors_by_themselves).prog w K mg base CX0 8 (He.ga K "law") fd ["_law_script"] (spLaw K (He.cT K lawP).2) := by
  have cd := c.t.d
  have gl : ∀ n ∈ gloNames, mg n = some (.ref (He.ga K n)) := fun n hn => He.glo_ok X G (cd.facts (f := .glo n) (List.mem_append_left _ (List.mem_map.mpr ⟨n, hn, rfl⟩)))
  have fr : ∀ n ∈ blNames, mg n = none := fun n hn => He.free_ok X G (cd.facts (f := .free n) (List.mem_append_right _ (List.mem_append_left _ (List.mem_map.mpr ⟨n, hn, rfl⟩))))
  have em : ∀ f ∈ exmF, He.Fa.ok K f = true := fun f hf => cd.facts (List.mem_append_right _ (List.mem_append_right _ hf))
  have df : ∀ q ∈ tops, ∃ fd, FunD K q.1 q.1 (defArgs (topS q.2)) (defBody (topS q.2)) (defScope (topS q.2)) [] [] (He.ga K q.1) fd := fun q hq => cd.defs (d := dTop q) (List.mem_append_left _ (List.mem_map.mpr ⟨q, hq, rfl⟩))
  have di : ∀ q ∈ inits, ∃ fd, FunI K q.1 q.2 fd := fun q hq => cd.defs (d := dInit q) (List.mem_append_right _ (List.mem_map.mpr ⟨q, hq, rfl⟩))
  have dt : ∀ q ∈ tops, DefT K mg q.1 (topS q.2) := fun q hq => (df q hq).elim fun fd F => ⟨_, fd, gl q.1 (List.mem_append_right _ (List.mem_map.mpr ⟨q, hq, rfl⟩)), F⟩
  obtain ⟨x1, x⟩ := He.ba c.more
  obtain ⟨x2, x⟩ := He.ba x
  obtain ⟨x3, x⟩ := He.ba x
  obtain ⟨x4, x⟩ := He.ba x
  obtain ⟨x5, x6⟩ := He.ba x
  have xc : ∀ q ∈ errs3, XC K (He.ga K q.1) := fun q hq => xc_of (List.all_eq_true.mp x1 q hq) x2
  have B : Bl mg := ⟨fr "int" (by decide +kernel), fr "list" (by decide +kernel), fr "len" (by decide +kernel), fr "isinstance" (by decide +kernel), fr "all" (by decide +kernel), fr "zip" (by decide +kernel), fr "sorted" (by decide +kernel), fr "range" (by decide +kernel), fr "max" (by decide +kernel), fr "tuple" (by decide +kernel), fr "str" (by decide +kernel), fr "bool" (by decide +kernel), fr "ValueError" (by decide +kernel), fr "LookupError" (by decide +kernel), fr "RuntimeError" (by decide +kernel)⟩
  have O : Owns K mg := ⟨fun n hn => gl n (List.mem_append_left _ hn), fun q hq n hn => of_decide_eq_true (List.all_eq_true.mp (He.ba (List.all_eq_true.mp x4 q hq)).1 n hn), fun q hq n hn => of_decide_eq_true (List.all_eq_true.mp (He.ba (List.all_eq_true.mp x4 q hq)).2 n hn), xc⟩
  have hI : ∀ q ∈ errTab, IniF K mg q.1 q.2 := fun q hq => by
    obtain ⟨i1, i2⟩ := He.ba (List.all_eq_true.mp x3 q hq)
    obtain ⟨i2, i3⟩ := He.ba i2
    obtain ⟨q3, h3, e3⟩ := List.mem_map.mp (errTab_in q hq)
    exact ⟨e3 ▸ xc q3 h3, gl q.1 (List.mem_append_left _ (tab_own q hq)), fun f hf => He.eqO_ok (List.all_eq_true.mp i1 f hf), He.eqO_ok i2, of_decide_eq_true i3⟩
  have np : NPlain K mg := ⟨PySem.F.excBase_ValueError, x5, gl "NotPlain" (by decide +kernel), x6⟩
  have TF : TakeF K := ⟨He.exm_ok (em _ (by simp [exmF] : He.Fa.exm "Short" "BandError" true ∈ exmF)), He.exm_ok (em _ (by simp [exmF] : He.Fa.exm "UnknownHop" "BandError" false ∈ exmF)), He.exm_ok (em _ (by simp [exmF] : He.Fa.exm "UnknownHop" "Missing" true ∈ exmF)), He.exm_ok (em _ (by simp [exmF] : He.Fa.exm "Started" "BandError" false ∈ exmF)), He.exm_ok (em _ (by simp [exmF] : He.Fa.exm "Started" "Missing" false ∈ exmF)), He.exm_ok (em _ (by simp [exmF] : He.Fa.exm "Started" "Refused" true ∈ exmF))⟩
  obtain ⟨fd, F⟩ := df ("law", 58) (by decide +kernel)
  have hcode : fd.code = .ref (He.cT K lawP).1 := by
    obtain ⟨oc, od, dV, kV, doc, pm, an, cdv, ct, osl, e, lk, hcd, _, _⟩ := F.ex
    obtain ⟨c0, ec⟩ := He.codeIn_ref hcd
    have e2 : fd.code = .ref c0 := by rw [e, ← ec]
    rw [show (He.cT K lawP).1 = c0 from He.codeOf_eq (K := K) (p := lawP) lk e2, e2]
  have b := FunD.bindsA (ps := ["_law_script"]) F fun _ _ _ _ _ _ us hl => match us, hl with | [_], _ => rfl
  refine ⟨fd, fun s u => b s [u] rfl, fun base TB => ?_⟩
  have hE : ∀ q ∈ errTab, EC (PySem.Challenge.rw_bandheld_k70_errors_by_themselves).prog w K mg base q.1 (He.ga K q.1) q.2 := ec_all hI di
  have Cdraw := ok_draw (P := (PySem.Challenge.rw_bandheld_k70_errors_by_themselves).prog) (w := w) (base := base) (dt ("_law_draw", 37) (by decide +kernel)) B
  have Cof := ok_of (dt ("_law_of", 39) (by decide +kernel)) B Cdraw
  have Cwide := ok_wide (dt ("_law_wide", 38) (by decide +kernel)) B Cdraw
  have Cpair := ok_pair (P := (PySem.Challenge.rw_bandheld_k70_errors_by_themselves).prog) (w := w) (base := base) (dt ("_law_pair", 41) (by decide +kernel)) B
  have Cgreat := ok_great (dt ("_law_great", 42) (by decide +kernel)) B Cdraw Cwide Cof
  have Cbag := ok_bag (P := (PySem.Challenge.rw_bandheld_k70_errors_by_themselves).prog) (w := w) (base := base) (dt ("_law_bag", 36) (by decide +kernel)) B
  have Codd := ok_odd (dt ("_law_odd", 44) (by decide +kernel)) B Cof
  have Cword := ok_word (dt ("_law_word", 45) (by decide +kernel)) B Cdraw Cof
  have Camount := ok_amount (dt ("_law_amount", 43) (by decide +kernel)) B Cdraw Cwide Cof Cpair Cgreat
  have Clike := ok_like (P := (PySem.Challenge.rw_bandheld_k70_errors_by_themselves).prog) (w := w) (base := base) (dt ("_law_like", 40) (by decide +kernel)) B
  have O1 := ok_FirstOnes (P := (PySem.Challenge.rw_bandheld_k70_errors_by_themselves).prog) (w := w) (base := base) (dt ("_law_first_ones", 47) (by decide +kernel)) B O
  have O2 := ok_MiddleOnes (P := (PySem.Challenge.rw_bandheld_k70_errors_by_themselves).prog) (w := w) (base := base) (dt ("_law_middle_ones", 48) (by decide +kernel)) B O
  have O3 := ok_LastOnes (P := (PySem.Challenge.rw_bandheld_k70_errors_by_themselves).prog) (w := w) (base := base) (dt ("_law_last_ones", 49) (by decide +kernel)) B O
  have Cknown := ok_Known (dt ("_law_known", 46) (by decide +kernel)) B O O1 O2 O3
  have Crows := ok_RowsSo (dt ("_law_rows_so", 57) (by decide +kernel)) B O Cknown (Clike 5)
  have M1 := ok_FirstMade (dt ("_law_first_made", 50) (by decide +kernel)) hE
  have M2 := ok_MiddleMade (dt ("_law_middle_made", 51) (by decide +kernel)) hE np
  have M3 := ok_LastMade (dt ("_law_last_made", 52) (by decide +kernel)) hE
  have eS := hE ("Short", ["amount"]) (by decide +kernel)
  have eU := hE ("UnknownHop", ["hop"]) (by decide +kernel)
  have eR := hE ("Started", ["tick"]) (by decide +kernel)
  have T1 := ok_Thrown (dt ("_law_thrown", 54) (by decide +kernel)) eS
  have T2 := ok_MissedIt (dt ("_law_missed", 55) (by decide +kernel)) eU
  have T3 := ok_RefusedIt (dt ("_law_refused", 56) (by decide +kernel)) eR
  exact ok_law F hcode TB B O TF (dt ("_law_taken", 53) (by decide +kernel)) eS.x eU.x eR.x (eS.no _ (by simp)) (eU.no _ (by simp)) (eR.no _ (by simp)) Cbag Cdraw Cof Codd Cword Camount (Clike 5) Crows M1 M2 M3 T1 T2 T3
end K70
set_option maxRecDepth 100000
set_option maxHeartbeats 0
namespace K70
open PySem PySem.Spec PyProof.Rows L2 LamX HandSHeadRun PySem.W PySem.Calls
def loose0 : List Str := (["BandError", "BadAmount", "BadLink", "BadFlow", "BadAge", "BadPart", "TooMany", "DuplicateName", "Idle", "Overpromised", "Small", "BadText", "BadManner", "BadCapacity", "BadSharing", "BadBand", "NotPlain", "Future", "Short", "BadValue", "BadState", "BadCount", "BadDeed", "Missing", "UnknownName", "UnknownChannel", "UnknownHop", "NoSuchLetter"] : List String).map PySem.Str.ofString
def loose1 : List Str := (["NoSuchTick", "Refused", "Started", "NotStrange", "NotShaky", "Unseen", "_law_bag", "_law_draw", "_law_wide", "_law_of", "_law_like", "_law_pair", "_law_great", "_law_amount", "_law_odd", "_law_word", "_law_known", "_law_first_ones", "_law_middle_ones", "_law_last_ones", "_law_first_made", "_law_middle_made", "_law_last_made", "_law_taken", "_law_thrown", "_law_missed", "_law_refused", "_law_rows_so"] : List String).map PySem.Str.ofString
def loose : List Str := loose0 ++ loose1
abbrev RR : PySem.W.OpenRow := PySem.W.OpenLaw.row PySem.Challenge.rw_bandheld_k70_errors_by_themselves
abbrev hk : PySem.W.Hook := He.hookX 4 fa fn [] [lawP] exK
theorem comb {α β γ : Type} {x : Option α} {f : α → β} {g : α → γ} {b : β} {c : γ} (h1 : x.map f = some b) (h2 : x.map g = some c) : x.map (fun s => (f s, g s)) = some (b, c) := by
  cases x with
  | none => cases h1
  | some s =>
    cases h1
    cases h2
    rfl
/-- the run's equation in four parts: each is one declaration for the kernel -/
theorem runX {r : PySem.W.OpenRow} {q : Program} {n M : Nat} {fa : List He.Fa} {fn : List He.DefD} {tf : List He.Defn} {ex : PySem.W.Frag → Bool} {loose : List PySem.Str} {w : World}
    (h1 : ∀ os : OsState, (HandSHeadRun.endF (stepQ (denQ tabQ) r.prog w) M r.prog w os).map (fun s => HandSHeadRun.looksF r.prog (boot_heap w.params) s.abs) = some true)
    (h2 : ∀ os : OsState, (HandSHeadRun.endF (stepQ (denQ tabQ) r.prog w) M r.prog w os).map (fun s => HandSHeadRun.seenQ q loose (importedModules r.prog.main.body) (fun s => xlAt q [] s && recOk r.toRowW.records s) s.abs) = some (openGood q loose))
    (h3 : ∀ os : OsState, (HandSHeadRun.endF (stepQ (denQ tabQ) r.prog w) M r.prog w os).map (fun s => He.obsT fa fn [] (He.frT (HandSHeadRun.getT s) (He.asD (HandSHeadRun.getT s) n))) = some (He.valT fn [] w))
    (h4 : ∀ os : OsState, (HandSHeadRun.endF (stepQ (denQ tabQ) r.prog w) M r.prog w os).map (fun s => ex (He.frT (HandSHeadRun.getT s) (He.asD (HandSHeadRun.getT s) n)) && He.tabsB (HandSHeadRun.getT s) tf (He.frT (HandSHeadRun.getT s) (He.asD (HandSHeadRun.getT s) n))) = some true) :
    HandSHeadRun.RunEq r q (He.hookX n fa fn [] tf ex) (fun s => He.obsX n fa fn [] tf ex (HandSHeadRun.getT s)) M loose w := fun os => comb (h1 os) (comb (h2 os) (comb (h3 os) (h4 os)))
theorem run1 (w : World) (os : OsState) : (HandSHeadRun.endF (stepQ (denQ tabQ) RR.prog w) 12000 RR.prog w os).map (fun s => HandSHeadRun.looksF RR.prog (boot_heap w.params) s.abs) = some true := by kernel_rfl
theorem run2 (w : World) (os : OsState) : (HandSHeadRun.endF (stepQ (denQ tabQ) RR.prog w) 12000 RR.prog w os).map (fun s => HandSHeadRun.seenQ (PySem.W.view RR.prog [58]) loose (importedModules RR.prog.main.body) (fun s => xlAt (PySem.W.view RR.prog [58]) [] s && recOk RR.toRowW.records s) s.abs) = some (openGood (PySem.W.view RR.prog [58]) loose) := by kernel_rfl
theorem run3 (w : World) (os : OsState) : (HandSHeadRun.endF (stepQ (denQ tabQ) RR.prog w) 12000 RR.prog w os).map (fun s => He.obsT fa fn [] (He.frT (HandSHeadRun.getT s) (He.asD (HandSHeadRun.getT s) 4))) = some (He.valT fn [] w) := by kernel_rfl
theorem run4 (w : World) (os : OsState) : (HandSHeadRun.endF (stepQ (denQ tabQ) RR.prog w) 12000 RR.prog w os).map (fun s => exK (He.frT (HandSHeadRun.getT s) (He.asD (HandSHeadRun.getT s) 4)) && He.tabsB (HandSHeadRun.getT s) [lawP] (He.frT (HandSHeadRun.getT s) (He.asD (HandSHeadRun.getT s) 4))) = some true := by kernel_rfl
theorem run (w : World) : HandSHeadRun.RunEq RR (PySem.W.view RR.prog [58]) hk (fun s => He.obsX 4 fa fn [] [lawP] exK (HandSHeadRun.getT s)) 12000 loose w := runX (run1 w) (run2 w) (run3 w) (run4 w)
end K70
set_option maxRecDepth 100000
set_option maxHeartbeats 0
open PySem PySem.W PySem.Calls PyProof.Rows
theorem PySem.Challenge.cw_bandheld_k70_errors_by_themselves_holds : PySem.Challenge.rw_bandheld_k70_errors_by_themselves.Holds := by
  w_on; o_law
  refine HandSHeadRun.head_any (r := K70.RR) (q := view K70.RR.prog [58]) (H := K70.hk) (ob := fun s => He.obsX 4 K70.fa K70.fn [] [K70.lawP] K70.exK (HandSHeadRun.getT s)) (M := 12000) (loose := K70.loose) (d := HandSHeadRun.topDef K70.RR.prog 58) (kwd := []) (fun s => He.obsX_eq (HandSHeadRun.getT_eq s))
    (by kernel_rfl) (fun s => by kernel_rfl) K70.run (by kernel_rfl) (by kernel_rfl) (by kernel_rfl) (by rfl) (by first | assumption | decide +kernel) (by decide +kernel) ⟨rfl, rfl, rfl, rfl, rfl, by decide +kernel⟩ ?hw ?hc
  case hw => w_witness2
  case hc =>
    refine LamX.walk_ofTsE (l := PySem.Challenge.rw_bandheld_k70_errors_by_themselves) (n := 63) (k := 8) (x := "_law_script") (CX := fun _ => L2.CX0) rfl (by decide) (by kernel_rfl) ⟨rfl, by decide, by decide⟩ ?F (fun _ _ _ _ _ z => z)
    intro w mg fa h Y G hmg0
    obtain ⟨K, KX, c⟩ := Y
    have hmg : mg ("law" : PySem.Str) = some (.ref fa) := by
      have e : (HandSHeadRun.topDef K70.RR.prog 58).name = ("law" : PySem.Str) := by kernel_rfl
      rw [← e]
      exact hmg0
    have e := hmg.symm.trans (He.glo_ok KX G (c.t.d.facts (f := .glo "law") (List.mem_append_left _ (List.mem_map.mpr ⟨("law" : PySem.Str), by decide +kernel, rfl⟩))))
    cases e
    obtain ⟨fd, hb, hF⟩ := K70.facts (w := w) KX G c
    refine ⟨K, KX, fd, [He.cT K K70.lawP], K70.spLaw K (He.cT K K70.lawP).2, fun p hp => ?_, fun p hp => ?_, fun p hp => ?_, hb, fun H a ns hl _ hT hS => ⟨a, ns, rfl, hS, hl, fun p hp => ?_, fun _ => rfl⟩, fun base KB NB hTB => hF base (hTB _ List.mem_cons_self)⟩
    · rw [List.mem_singleton.mp hp]
      exact c.empty _ List.mem_cons_self
    · rw [List.mem_singleton.mp hp]
      exact c.out _ List.mem_cons_self
    · rw [List.mem_singleton.mp hp]
      exact PySem.W.codeHd_of_K KX (c.hd _ List.mem_cons_self)
    · rw [List.mem_singleton.mp hp]
      exact LamX.TabS.nil (hT _ List.mem_cons_self)
