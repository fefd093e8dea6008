/- Functions as typed ones,and that the program's functions answer as these do. No condition. -/
import Derived.Test.YtifcbecpemaieaaGb6
import Derived.Test.YtifcbecpemaieaaGdPlainOnceEach
set_option linter.unusedSimpArgs false
set_option linter.unusedVariables false
set_option maxRecDepth 20000
set_option maxHeartbeats 4000000
namespace Go.Proofs.Ytifcbecpemaieaa
open Go.RowKit

theorem L_law05_PlainOnceEach_ok {a0 : TApp} {a1 : (List TStep)} {r : Bool} (hD : L_law05_PlainOnceEach a0 a1 = some r) :
  CallH Try.prog 15 [.agg (cTApp a0),.one (.d (.sl (List.map eTStep a1)))] []
   (.one (.d (.bool r))) [] := by
 unfold L_law05_PlainOnceEach at hD
 refine rc Try.func15 rfl Try.ntmps15 fun S Φ P0 wb ac h => ?_
 refine qs 3 [] [1,2] [(1,0)] h fun ac wd h => ?_
 obtain ⟨r1445,hc1446,hD⟩ := oB hD
 have hc1446k := L_law05_Cut_ok hc1446
 refine qs 6 [factE 4 hc1446k] [1,2] [(1,0)] h fun ac wd h => ?_
 obtain ⟨r1449,hc1450,hD⟩ := oB hD
 have hc1450k := L_law05_App_ok hc1450
 refine qs 10 [factE 7 hc1450k] [1,2,5] [(1,0),(8,0)] h fun ac wd h => ?_
 refine wp_seq ?_
 obtain ⟨r1453,hc1454,hD⟩ := oB hD
 have hc1454k := L_ref04_Right_ok hc1454
 refine qs 16 [factE 14 hc1454k] [1,2,22] [(1,0)] h fun ac wd h => ?_
 rcases i2b hD with ⟨hb1460,hD⟩ | ⟨hb1460,hD⟩
 ·
  refine kF h ?_
  refine wp_skip ?_
  change Code.wp Try.prog _ _ _ _
  obtain ⟨r1882,hc1883,hD⟩ := oB hD
  obtain ⟨ha1884,hD⟩ := iT hD
  obtain ⟨ha1885,hD⟩ := iT hD
  have hc1883k := L_plain_Start_ok hc1883
  refine ds 26 [factE 17 hc1883k] [1,2,6,7] [(1,0),(22,0),(23,0)] h fun ac wd h => ?_
  have h := h.nilTr (22,0) (l := List.replicate r1445.G.Links.length [.nil]) (l' := List.replicate r1445.G.Links.length [.tr (.sl 3 1 (fun _ => .sc)) (.sl (List.map eI []))]) (by simp only [EZ,simprocAttr, *] <;> rfl) (RowsTo.rep (RowTo.cons (.inr (.inr ⟨rfl,_,_,_,rfl⟩)) RowTo.nil) _)
  have h := h.sm 26 [(1,.one (.d (.sl (List.map eTStep a1)))),(2,.one (.ptr (1,0) 0)),(6,.one (.ptr (23,0) 0)),(7,.one (.own (22,0) r1445.G.Links.length))]
   [((1,0),some (.box 27 [.d (.int .i64 r1445.G.N),.d (.sl (List.map eA2I r1445.G.Links)),.d (.sl (List.map eTNode r1445.T)),.d (.bool r1445.Fifo)])),((22,0),some (.row 28 1 (List.replicate r1445.G.Links.length [.tr (.sl 3 1 (fun _ => .sc)) (.sl (List.map eI []))]))),((23,0),some (.box 31 [.d (.sl (List.map eI r1882.States)),.d (.sl (List.map (eL eTMsg) r1882.Links)),.d (.sl (List.map eI r1882.Sent))]))]
  refine wp_seq ?_
  refine qs 27 [] [1,2,6,7,8] [(1,0),(22,0),(23,0)] h fun ac wd h => ?_
  obtain ⟨e2657,hE2658,hD⟩ := Option.bind_eq_some_iff.1 hD
  refine r_meet (fun ac wd => ∃ (m2655 : TConf) (l2656 : List (List Int)),(m2655,l2656) = e2657 ∧ SL ⟨wb,S,Φ,P0⟩ 184 281 [(6,.one (.ptr (23,0) 0)),(7,.one (.own (22,0) l2656.length))] [((22,0),some (.row 28 1 (openRows cols_28 (List.map (eL eI) l2656)))),((23,0),some (.box 31 (cTConf m2655)))] ac wd) ?_ ?_
  ·
   refine wp_block ?_
   refine r_while (fun nf ac wd => ∃ (n3040 : Int) (m3041 : TConf) (l3042 : List (List Int)),L_law05_PlainOnceEach_l1 a1 r1445 nf n3040 m3041 l3042 = some e2657 ∧ SL ⟨wb,S,Φ,P0⟩ 184 273 [(1,.one (.d (.sl (List.map eTStep a1)))),(2,.one (.ptr (1,0) 0)),(6,.one (.ptr (23,0) 0)),(7,.one (.own (22,0) l3042.length)),(8,.one (.d (.int .i64 n3040)))] [((1,0),some (.box 27 [.d (.int .i64 r1445.G.N),.d (.sl (List.map eA2I r1445.G.Links)),.d (.sl (List.map eTNode r1445.T)),.d (.bool r1445.Fifo)])),((22,0),some (.row 28 1 (openRows cols_28 (List.map (eL eI) l3042)))),((23,0),some (.box 31 (cTConf m3041)))] ac wd) (((a1.length : Int) - 0).toNat + 1) ⟨0,r1882,((List.replicate r1445.G.Links.length []) : List (List Int)),hE2658,h.z⟩ (fun nf ac wd hJ => ?_)
   obtain ⟨n3040,m3041,l3042,hL3043,h⟩ := hJ
   cases nf with
   | zero => rw [L_law05_PlainOnceEach_l1] at hL3043; cases hL3043
   | succ nf =>
    rw [L_law05_PlainOnceEach_l1] at hL3043
    refine wp_seq ?_
    obtain ⟨e3072,hE3073,hL3043⟩ := Option.bind_eq_some_iff.1 hL3043
    refine r_seqJ (fun ac wd => ∃ (b3071 : Bool),b3071 = e3072 ∧ SL ⟨wb,S,Φ,P0⟩ 184 281 [(1,.one (.d (.sl (List.map eTStep a1)))),(2,.one (.ptr (1,0) 0)),(6,.one (.ptr (23,0) 0)),(7,.one (.own (22,0) l3042.length)),(8,.one (.d (.int .i64 n3040))),(38,.one (.d (.bool b3071)))] [((1,0),some (.box 27 [.d (.int .i64 r1445.G.N),.d (.sl (List.map eA2I r1445.G.Links)),.d (.sl (List.map eTNode r1445.T)),.d (.bool r1445.Fifo)])),((22,0),some (.row 28 1 (openRows cols_28 (List.map (eL eI) l3042)))),((23,0),some (.box 31 (cTConf m3041)))] ac wd) ?_ ?_
    ·
     rcases i2 hE3073 with ⟨hb3074,hE3073⟩ | ⟨hb3074,hE3073⟩
     ·
      refine qeg [] [none,none,none,none,none,some (some 35,true),some (some 35,true),none] [1,2,6,7,8,38] [(1,0),(22,0),(23,0)] h fun ac wd h => ?_
      injection hE3073 with hE3073; subst hE3073
      exact ⟨decide (n3040 < 40),rfl,h.z⟩
     ·
      refine qeg [] [none,none,none,none,none,some (some 35,true),some (some 35,true),none] [1,2,6,7,8,38] [(1,0),(22,0),(23,0)] h fun ac wd h => ?_
      injection hE3073 with hE3073; subst hE3073
      exact ⟨false,rfl,h.z⟩
    ·
     rintro ac wd ⟨b3071,rfl,h⟩
     (try dsimp only at hL3043)
     rcases i2b hL3043 with ⟨hb3076,hL3043⟩ | ⟨hb3076,hL3043⟩
     ·
      refine kT h ?_
      refine wp_skip ?_
      change Code.wp Try.prog _ _ _ _
      obtain ⟨e3189,hE3190,hL3043⟩ := Option.bind_eq_some_iff.1 hL3043
      refine r_seqJ (fun ac wd => ∃ (m3187 : TConf) (l3188 : List (List Int)),(m3187,l3188) = e3189 ∧ SL ⟨wb,S,Φ,P0⟩ 184 393 [(1,.one (.d (.sl (List.map eTStep a1)))),(2,.one (.ptr (1,0) 0)),(6,.one (.ptr (23,0) 0)),(7,.one (.own (22,0) l3188.length)),(8,.one (.d (.int .i64 n3040)))] [((1,0),some (.box 27 [.d (.int .i64 r1445.G.N),.d (.sl (List.map eA2I r1445.G.Links)),.d (.sl (List.map eTNode r1445.T)),.d (.bool r1445.Fifo)])),((22,0),some (.row 28 1 (openRows cols_28 (List.map (eL eI) l3188)))),((23,0),some (.box 31 (cTConf m3187)))] ac wd) ?_ ?_
      ·
       refine wp_block ?_
       obtain ⟨x3195,hx3196a,hx3196b,hx3196c,hx3196d,hE3190⟩ := aB hE3190
       obtain ⟨r3197,hc3198,hE3190⟩ := oB hE3190
       have hc3198k := L_plain_Apply_ok hc3198
       refine ds 294 [factE 287 hc3198k] [1,2,6,7,8,9,10] [(1,0),(22,0),(23,0),(291,0)] h fun ac wd h => ?_
       refine wp_seq ?_
       refine qs 296 [] [1,2,6,7,8,9,52] [(1,0),(22,0),(23,0),(291,0)] h fun ac wd h => ?_
       rcases i2e hE3190 with ⟨hb3200,hE3190⟩ | ⟨hb3200,hE3190⟩
       ·
        refine kF h ?_
        refine wp_skip ?_
        change Code.wp Try.prog _ _ _ _
        refine qs 302 [] [1,2,6,7,8,9,11] [(1,0),(22,0),(23,0),(291,0)] h fun ac wd h => ?_
        refine wp_seq ?_
        refine qs 308 [] [1,2,6,7,8,9,11,63] [(1,0),(22,0),(23,0),(291,0)] h fun ac wd h => ?_
        obtain ⟨e3258,hE3259,hE3190⟩ := Option.bind_eq_some_iff.1 hE3190
        refine r_meet (fun ac wd => ∃ (l3257 : List (List Int)),l3257 = e3258 ∧ SL ⟨wb,S,Φ,P0⟩ 184 391 [(1,.one (.d (.sl (List.map eTStep a1)))),(2,.one (.ptr (1,0) 0)),(6,.one (.ptr (23,0) 0)),(7,.one (.own (22,0) l3257.length)),(8,.one (.d (.int .i64 n3040))),(9,.one (.ptr (291,0) 0))] [((1,0),some (.box 27 [.d (.int .i64 r1445.G.N),.d (.sl (List.map eA2I r1445.G.Links)),.d (.sl (List.map eTNode r1445.T)),.d (.bool r1445.Fifo)])),((22,0),some (.row 28 1 (openRows cols_28 (List.map (eL eI) l3257)))),((23,0),some (.box 31 (cTConf m3041))),((291,0),some (.box 31 [.d (.sl (List.map eI r3197.1.States)),.d (.sl (List.map (eL eTMsg) r3197.1.Links)),.d (.sl (List.map eI r3197.1.Sent))]))] ac wd) ?_ ?_
        ·
         rcases i2e hE3259 with ⟨hb3260,hE3259⟩ | ⟨hb3260,hE3259⟩
         ·
          refine kT h ?_
          refine wp_seq ?_
          obtain ⟨e3306,hE3307,hE3259⟩ := Option.bind_eq_some_iff.1 hE3259
          refine r_seqJ (fun ac wd => ∃ (b3304 : Bool) (l3305 : List (List Int)),(b3304,l3305) = e3306 ∧ SL ⟨wb,S,Φ,P0⟩ 184 375 [(1,.one (.d (.sl (List.map eTStep a1)))),(2,.one (.ptr (1,0) 0)),(6,.one (.ptr (23,0) 0)),(7,.one (.own (22,0) l3305.length)),(8,.one (.d (.int .i64 n3040))),(9,.one (.ptr (291,0) 0)),(11,.one (.d (.int .i64 x3195.Link))),(129,.one (.d (.bool b3304)))] [((1,0),some (.box 27 [.d (.int .i64 r1445.G.N),.d (.sl (List.map eA2I r1445.G.Links)),.d (.sl (List.map eTNode r1445.T)),.d (.bool r1445.Fifo)])),((22,0),some (.row 28 1 (openRows cols_28 (List.map (eL eI) l3305)))),((23,0),some (.box 31 (cTConf m3041))),((291,0),some (.box 31 [.d (.sl (List.map eI r3197.1.States)),.d (.sl (List.map (eL eTMsg) r3197.1.Links)),.d (.sl (List.map eI r3197.1.Sent))]))] ac wd) ?_ ?_
          ·
           rcases i2 hE3307 with ⟨hb3308,hE3307⟩ | ⟨hb3308,hE3307⟩
           ·
            refine deg [] [none,none,none,some (some 66,false),some (some 66,false),some (some 66,false),some (some 66,false),none,none,some (some 72,false),some (some 72,false),some (some 72,false),some (some 72,false),some (some 72,false),none,none,some (some 79,false),some (some 79,false),some (some 79,false),some (some 79,false),some (some 79,false),some (some 79,false),none,none,some (some 87,false),some (some 87,false),some (some 87,false),some (some 87,false),some (some 87,false),some (some 87,false),some (some 87,false),some (some 87,false),some (some 87,false),some (some 87,false),some (some 87,false),none,none,some (some 100,false),some (some 100,false),some (some 100,false),some (some 100,false),some (some 100,false),some (some 100,false),some (some 100,false),some (some 100,false),some (some 100,false),some (some 100,false),none,none,some (some 112,false),some (some 112,false),some (some 112,false),some (some 115,true),some (some 115,true),some (some 115,true),some (some 115,true),some (some 115,true),some (some 115,true),some (some 115,true),some (some 115,true),some (some 115,true),some (some 115,true),some (some 115,true),some (some 115,true),some (some 112,false),none] [1,2,6,7,8,9,11,129] [(1,0),(22,0),(23,0),(291,0)] h fun ac wd h => ?_
            injection hE3307 with hE3307; subst hE3307
            exact ⟨true,l3042,rfl,h.z⟩
           ·
            rcases i2 hE3307 with ⟨hb3310,hE3307⟩ | ⟨hb3310,hE3307⟩
            ·
             refine deg [] [none,none,none,some (some 66,false),some (some 66,false),some (some 66,false),some (some 66,false),none,none,some (some 72,false),some (some 72,false),some (some 72,false),some (some 72,false),some (some 72,false),none,none,some (some 79,false),some (some 79,false),some (some 79,false),some (some 79,false),some (some 79,false),some (some 79,false),none,none,some (some 87,false),some (some 87,false),some (some 87,false),some (some 87,false),some (some 87,false),some (some 87,false),some (some 87,false),some (some 87,false),some (some 87,false),some (some 87,false),some (some 87,false),none,none,some (some 100,false),some (some 100,false),some (some 100,false),some (some 100,false),some (some 100,false),some (some 100,false),some (some 100,false),some (some 100,false),some (some 100,false),some (some 100,false),none,none,some (some 112,false),some (some 112,false),some (some 112,false),some (some 115,true),some (some 115,true),some (some 115,true),some (some 115,true),some (some 115,true),some (some 115,true),some (some 115,true),some (some 115,true),some (some 115,true),some (some 115,true),some (some 115,true),some (some 115,true),some (some 112,false),none] [1,2,6,7,8,9,11,129] [(1,0),(22,0),(23,0),(291,0)] h fun ac wd h => ?_
             injection hE3307 with hE3307; subst hE3307
             exact ⟨true,l3042,rfl,h.z⟩
            ·
             rcases i2 hE3307 with ⟨hb3312,hE3307⟩ | ⟨hb3312,hE3307⟩
             ·
              refine deg [] [none,none,none,some (some 66,false),some (some 66,false),some (some 66,false),some (some 66,false),none,none,some (some 72,false),some (some 72,false),some (some 72,false),some (some 72,false),some (some 72,false),none,none,some (some 79,false),some (some 79,false),some (some 79,false),some (some 79,false),some (some 79,false),some (some 79,false),none,none,some (some 87,false),some (some 87,false),some (some 87,false),some (some 87,false),some (some 87,false),some (some 87,false),some (some 87,false),some (some 87,false),some (some 87,false),some (some 87,false),some (some 87,false),none,none,some (some 100,false),some (some 100,false),some (some 100,false),some (some 100,false),some (some 100,false),some (some 100,false),some (some 100,false),some (some 100,false),some (some 100,false),some (some 100,false),none,none,some (some 112,false),some (some 112,false),some (some 112,false),some (some 115,true),some (some 115,true),some (some 115,true),some (some 115,true),some (some 115,true),some (some 115,true),some (some 115,true),some (some 115,true),some (some 115,true),some (some 115,true),some (some 115,true),some (some 115,true),some (some 112,false),none] [1,2,6,7,8,9,11,129] [(1,0),(22,0),(23,0),(291,0)] h fun ac wd h => ?_
              injection hE3307 with hE3307; subst hE3307
              exact ⟨true,l3042,rfl,h.z⟩
             ·
              rcases i2 hE3307 with ⟨hb3314,hE3307⟩ | ⟨hb3314,hE3307⟩
              ·
               refine deg [] [none,none,none,some (some 66,false),some (some 66,false),some (some 66,false),some (some 66,false),none,none,some (some 72,false),some (some 72,false),some (some 72,false),some (some 72,false),some (some 72,false),none,none,some (some 79,false),some (some 79,false),some (some 79,false),some (some 79,false),some (some 79,false),some (some 79,false),none,none,some (some 87,false),some (some 87,false),some (some 87,false),some (some 87,false),some (some 87,false),some (some 87,false),some (some 87,false),some (some 87,false),some (some 87,false),some (some 87,false),some (some 87,false),none,none,some (some 100,false),some (some 100,false),some (some 100,false),some (some 100,false),some (some 100,false),some (some 100,false),some (some 100,false),some (some 100,false),some (some 100,false),some (some 100,false),none,none,some (some 112,false),some (some 112,false),some (some 112,false),some (some 115,true),some (some 115,true),some (some 115,true),some (some 115,true),some (some 115,true),some (some 115,true),some (some 115,true),some (some 115,true),some (some 115,true),some (some 115,true),some (some 115,true),some (some 115,true),some (some 112,false),none] [1,2,6,7,8,9,11,129] [(1,0),(22,0),(23,0),(291,0)] h fun ac wd h => ?_
               injection hE3307 with hE3307; subst hE3307
               exact ⟨true,l3042,rfl,h.z⟩
              ·
               obtain ⟨x3318,hx3319a,hx3319b,hx3319c,hx3319d,hE3307⟩ := aB hE3307
               rcases i2 hE3307 with ⟨hb3320,hE3307⟩ | ⟨hb3320,hE3307⟩
               ·
                refine deg [] [none,none,none,some (some 66,false),some (some 66,false),some (some 66,false),some (some 66,false),none,none,some (some 72,false),some (some 72,false),some (some 72,false),some (some 72,false),some (some 72,false),none,none,some (some 79,false),some (some 79,false),some (some 79,false),some (some 79,false),some (some 79,false),some (some 79,false),none,none,some (some 87,false),some (some 87,false),some (some 87,false),some (some 87,false),some (some 87,false),some (some 87,false),some (some 87,false),some (some 87,false),some (some 87,false),some (some 87,false),some (some 87,false),none,none,some (some 100,false),some (some 100,false),some (some 100,false),some (some 100,false),some (some 100,false),some (some 100,false),some (some 100,false),some (some 100,false),some (some 100,false),some (some 100,false),none,none,some (some 112,false),some (some 112,false),some (some 112,false),some (some 115,true),some (some 115,true),some (some 115,true),some (some 115,true),some (some 115,true),some (some 115,true),some (some 115,true),some (some 115,true),some (some 115,true),some (some 115,true),some (some 115,true),some (some 115,true),some (some 112,false),none] [1,2,6,7,8,9,11,129] [(1,0),(22,0),(23,0),(291,0)] h fun ac wd h => ?_
                injection hE3307 with hE3307; subst hE3307
                exact ⟨true,l3042,rfl,h.z⟩
               ·
                obtain ⟨x3326,hx3327a,hx3327b,hx3327c,hx3327d,hE3307⟩ := aB hE3307
                have h := h.op (22,0) x3195.Link.toNat 0
                have h := h.sm 309 [(1,.one (.d (.sl (List.map eTStep a1)))),(2,.one (.ptr (1,0) 0)),(6,.one (.ptr (23,0) 0)),(7,.one (.own (22,0) l3042.length)),(8,.one (.d (.int .i64 n3040))),(9,.one (.ptr (291,0) 0)),(11,.one (.d (.int .i64 x3195.Link))),(63,.one (.d (.bool (decide (x3195.Kind = 1)))))]
                 [((1,0),some (.box 27 [.d (.int .i64 r1445.G.N),.d (.sl (List.map eA2I r1445.G.Links)),.d (.sl (List.map eTNode r1445.T)),.d (.bool r1445.Fifo)])),((22,0),some (.row 28 1 ((openRows cols_28 (List.map (eL eI) l3042)).set x3195.Link.toNat [.own (308,0) x3326.length]))),((23,0),some (.box 31 (cTConf m3041))),((291,0),some (.box 31 [.d (.sl (List.map eI r3197.1.States)),.d (.sl (List.map (eL eTMsg) r3197.1.Links)),.d (.sl (List.map eI r3197.1.Sent))])),((308,0),some (.row 3 1 (dat (List.map eI x3326))))]
                obtain ⟨r3328,hc3329,hE3307⟩ := oB hE3307
                rcases i2b hE3307 with ⟨hb3330,hE3307⟩ | ⟨hb3330,hE3307⟩
                ·
                 have hc3329k := L_ref04_In_ok hc3329
                 refine deg [factE 355 hc3329k] [none,none,none,some (some 66,false),some (some 66,false),some (some 66,false),some (some 66,false),none,none,some (some 72,false),some (some 72,false),some (some 72,false),some (some 72,false),some (some 72,false),none,none,some (some 79,false),some (some 79,false),some (some 79,false),some (some 79,false),some (some 79,false),some (some 79,false),none,none,some (some 87,false),some (some 87,false),some (some 87,false),some (some 87,false),some (some 87,false),some (some 87,false),some (some 87,false),some (some 87,false),some (some 87,false),some (some 87,false),some (some 87,false),none,none,some (some 100,false),some (some 100,false),some (some 100,false),some (some 100,false),some (some 100,false),some (some 100,false),some (some 100,false),some (some 100,false),some (some 100,false),some (some 100,false),none,none,some (some 112,false),some (some 112,false),some (some 112,false),some (some 115,true),some (some 115,true),some (some 115,true),some (some 115,true),some (some 115,true),some (some 115,true),some (some 115,true),some (some 115,true),some (some 115,true),some (some 115,true),some (some 115,true),some (some 115,true),some (some 112,false),none] [1,2,6,7,8,9,11,129] [(1,0),(22,0),(23,0),(291,0),(308,0)] h fun ac wd h => ?_
                 have h := h.fS (cols := (fun _ => .sc)) (22,0) (308,0) (openRows cols_28 (List.map (eL eI) l3042)) x3195.Link.toNat [.own (308,0) x3326.length] 0 (List.map eI x3326) (sc_3 _)
                 have h := h.sm 375 [(1,.one (.d (.sl (List.map eTStep a1)))),(2,.one (.ptr (1,0) 0)),(6,.one (.ptr (23,0) 0)),(7,.one (.own (22,0) l3042.length)),(8,.one (.d (.int .i64 n3040))),(9,.one (.ptr (291,0) 0)),(11,.one (.d (.int .i64 x3195.Link))),(129,.one (.d (.bool true)))]
                  [((1,0),some (.box 27 [.d (.int .i64 r1445.G.N),.d (.sl (List.map eA2I r1445.G.Links)),.d (.sl (List.map eTNode r1445.T)),.d (.bool r1445.Fifo)])),((22,0),some (.row 28 1 ((openRows cols_28 (List.map (eL eI) l3042)).set x3195.Link.toNat [.tr (.sl 3 1 (fun _ => .sc)) (.sl (List.map eI x3326))]))),((23,0),some (.box 31 (cTConf m3041))),((291,0),some (.box 31 [.d (.sl (List.map eI r3197.1.States)),.d (.sl (List.map (eL eTMsg) r3197.1.Links)),.d (.sl (List.map eI r3197.1.Sent))]))]
                 injection hE3307 with hE3307; subst hE3307
                 exact ⟨true,(l3042.set x3195.Link.toNat x3326),rfl,h.z⟩
                ·
                 rcases i2b hE3307 with ⟨hb3332,hE3307⟩ | ⟨hb3332,hE3307⟩
                 ·
                  have hc3329k := L_ref04_In_ok hc3329
                  refine deg [factE 355 hc3329k] [none,none,none,some (some 66,false),some (some 66,false),some (some 66,false),some (some 66,false),none,none,some (some 72,false),some (some 72,false),some (some 72,false),some (some 72,false),some (some 72,false),none,none,some (some 79,false),some (some 79,false),some (some 79,false),some (some 79,false),some (some 79,false),some (some 79,false),none,none,some (some 87,false),some (some 87,false),some (some 87,false),some (some 87,false),some (some 87,false),some (some 87,false),some (some 87,false),some (some 87,false),some (some 87,false),some (some 87,false),some (some 87,false),none,none,some (some 100,false),some (some 100,false),some (some 100,false),some (some 100,false),some (some 100,false),some (some 100,false),some (some 100,false),some (some 100,false),some (some 100,false),some (some 100,false),none,none,some (some 112,false),some (some 112,false),some (some 112,false),some (some 115,true),some (some 115,true),some (some 115,true),some (some 115,true),some (some 115,true),some (some 115,true),some (some 115,true),some (some 115,true),some (some 115,true),some (some 115,true),some (some 115,true),some (some 115,true),some (some 112,false),none] [1,2,6,7,8,9,11,129] [(1,0),(22,0),(23,0),(291,0),(308,0)] h fun ac wd h => ?_
                  have h := h.fS (cols := (fun _ => .sc)) (22,0) (308,0) (openRows cols_28 (List.map (eL eI) l3042)) x3195.Link.toNat [.own (308,0) x3326.length] 0 (List.map eI x3326) (sc_3 _)
                  have h := h.sm 375 [(1,.one (.d (.sl (List.map eTStep a1)))),(2,.one (.ptr (1,0) 0)),(6,.one (.ptr (23,0) 0)),(7,.one (.own (22,0) l3042.length)),(8,.one (.d (.int .i64 n3040))),(9,.one (.ptr (291,0) 0)),(11,.one (.d (.int .i64 x3195.Link))),(129,.one (.d (.bool (!(decide (x3195.Seq = (IntKind.wrap .i64 ((x3326.length : Int) + 1))))))))]
                   [((1,0),some (.box 27 [.d (.int .i64 r1445.G.N),.d (.sl (List.map eA2I r1445.G.Links)),.d (.sl (List.map eTNode r1445.T)),.d (.bool r1445.Fifo)])),((22,0),some (.row 28 1 ((openRows cols_28 (List.map (eL eI) l3042)).set x3195.Link.toNat [.tr (.sl 3 1 (fun _ => .sc)) (.sl (List.map eI x3326))]))),((23,0),some (.box 31 (cTConf m3041))),((291,0),some (.box 31 [.d (.sl (List.map eI r3197.1.States)),.d (.sl (List.map (eL eTMsg) r3197.1.Links)),.d (.sl (List.map eI r3197.1.Sent))]))]
                  injection hE3307 with hE3307; subst hE3307
                  exact ⟨!(decide (x3195.Seq = (IntKind.wrap .i64 ((x3326.length : Int) + 1)))),(l3042.set x3195.Link.toNat x3326),rfl,h.z⟩
                 ·
                  have hc3329k := L_ref04_In_ok hc3329
                  refine deg [factE 355 hc3329k] [none,none,none,some (some 66,false),some (some 66,false),some (some 66,false),some (some 66,false),none,none,some (some 72,false),some (some 72,false),some (some 72,false),some (some 72,false),some (some 72,false),none,none,some (some 79,false),some (some 79,false),some (some 79,false),some (some 79,false),some (some 79,false),some (some 79,false),none,none,some (some 87,false),some (some 87,false),some (some 87,false),some (some 87,false),some (some 87,false),some (some 87,false),some (some 87,false),some (some 87,false),some (some 87,false),some (some 87,false),some (some 87,false),none,none,some (some 100,false),some (some 100,false),some (some 100,false),some (some 100,false),some (some 100,false),some (some 100,false),some (some 100,false),some (some 100,false),some (some 100,false),some (some 100,false),none,none,some (some 112,false),some (some 112,false),some (some 112,false),some (some 115,true),some (some 115,true),some (some 115,true),some (some 115,true),some (some 115,true),some (some 115,true),some (some 115,true),some (some 115,true),some (some 115,true),some (some 115,true),some (some 115,true),some (some 115,true),some (some 112,false),none] [1,2,6,7,8,9,11,129] [(1,0),(22,0),(23,0),(291,0),(308,0)] h fun ac wd h => ?_
                  have h := h.fS (cols := (fun _ => .sc)) (22,0) (308,0) (openRows cols_28 (List.map (eL eI) l3042)) x3195.Link.toNat [.own (308,0) x3326.length] 0 (List.map eI x3326) (sc_3 _)
                  have h := h.sm 375 [(1,.one (.d (.sl (List.map eTStep a1)))),(2,.one (.ptr (1,0) 0)),(6,.one (.ptr (23,0) 0)),(7,.one (.own (22,0) l3042.length)),(8,.one (.d (.int .i64 n3040))),(9,.one (.ptr (291,0) 0)),(11,.one (.d (.int .i64 x3195.Link))),(129,.one (.d (.bool false)))]
                   [((1,0),some (.box 27 [.d (.int .i64 r1445.G.N),.d (.sl (List.map eA2I r1445.G.Links)),.d (.sl (List.map eTNode r1445.T)),.d (.bool r1445.Fifo)])),((22,0),some (.row 28 1 ((openRows cols_28 (List.map (eL eI) l3042)).set x3195.Link.toNat [.tr (.sl 3 1 (fun _ => .sc)) (.sl (List.map eI x3326))]))),((23,0),some (.box 31 (cTConf m3041))),((291,0),some (.box 31 [.d (.sl (List.map eI r3197.1.States)),.d (.sl (List.map (eL eTMsg) r3197.1.Links)),.d (.sl (List.map eI r3197.1.Sent))]))]
                  injection hE3307 with hE3307; subst hE3307
                  exact ⟨false,(l3042.set x3195.Link.toNat x3326),rfl,h.z⟩
          ·
           rintro ac wd ⟨b3304,l3305,rfl,h⟩
           (try dsimp only at hE3259)
           obtain ⟨hb3334,hE3259⟩ := iFb hE3259
           refine kF h ?_
           refine wp_skip ?_
           change Code.wp Try.prog _ _ _ _
           obtain ⟨x3338,hx3339a,hx3339b,hx3339c,hx3339d,hE3259⟩ := aB hE3259
           have h := h.op (22,0) x3195.Link.toNat 0
           have h := h.sm 376 [(1,.one (.d (.sl (List.map eTStep a1)))),(2,.one (.ptr (1,0) 0)),(6,.one (.ptr (23,0) 0)),(7,.one (.own (22,0) l3305.length)),(8,.one (.d (.int .i64 n3040))),(9,.one (.ptr (291,0) 0)),(11,.one (.d (.int .i64 x3195.Link))),(129,.one (.d (.bool b3304)))]
            [((1,0),some (.box 27 [.d (.int .i64 r1445.G.N),.d (.sl (List.map eA2I r1445.G.Links)),.d (.sl (List.map eTNode r1445.T)),.d (.bool r1445.Fifo)])),((22,0),some (.row 28 1 ((openRows cols_28 (List.map (eL eI) l3305)).set x3195.Link.toNat [.own (375,0) x3338.length]))),((23,0),some (.box 31 (cTConf m3041))),((291,0),some (.box 31 [.d (.sl (List.map eI r3197.1.States)),.d (.sl (List.map (eL eTMsg) r3197.1.Links)),.d (.sl (List.map eI r3197.1.Sent))])),((375,0),some (.row 3 1 (dat (List.map eI x3338))))]
           obtain ⟨ha3340,hE3259⟩ := iT hE3259
           refine de [] [1,2,6,7,8,9] [(1,0),(22,0),(23,0),(291,0),(388,0)] h fun ac wd h => ?_
           have h := h.fS (cols := (fun _ => .sc)) (22,0) (388,0) (openRows cols_28 (List.map (eL eI) l3305)) x3195.Link.toNat [.own (388,0) (x3338.length + 1)] 0 (List.map eI (x3338 ++ [x3195.Seq])) (sc_3 _)
           have h := h.sm 391 [(1,.one (.d (.sl (List.map eTStep a1)))),(2,.one (.ptr (1,0) 0)),(6,.one (.ptr (23,0) 0)),(7,.one (.own (22,0) l3305.length)),(8,.one (.d (.int .i64 n3040))),(9,.one (.ptr (291,0) 0))]
            [((1,0),some (.box 27 [.d (.int .i64 r1445.G.N),.d (.sl (List.map eA2I r1445.G.Links)),.d (.sl (List.map eTNode r1445.T)),.d (.bool r1445.Fifo)])),((22,0),some (.row 28 1 ((openRows cols_28 (List.map (eL eI) l3305)).set x3195.Link.toNat [.tr (.sl 3 1 (fun _ => .sc)) (.sl (List.map eI (x3338 ++ [x3195.Seq])))]))),((23,0),some (.box 31 (cTConf m3041))),((291,0),some (.box 31 [.d (.sl (List.map eI r3197.1.States)),.d (.sl (List.map (eL eTMsg) r3197.1.Links)),.d (.sl (List.map eI r3197.1.Sent))]))]
           injection hE3259 with hE3259; subst hE3259
           exact ⟨(l3305.set x3195.Link.toNat (x3338 ++ [x3195.Seq])),rfl,h.z⟩
         ·
          refine kF h ?_
          refine wp_skip ?_
          injection hE3259 with hE3259; subst hE3259
          exact ⟨l3042,rfl,h.z⟩
        ·
         rintro ac wd ⟨l3257,rfl,h⟩
         (try dsimp only at hE3190)
         refine qe [] [1,2,6,7,8] [(1,0),(22,0),(23,0)] h fun ac wd h => ?_
         injection hE3190 with hE3190; subst hE3190
         exact ⟨r3197.1,l3257,rfl,h.z⟩
       ·
        refine kT h ?_
        refine wp_exit ?_
        injection hE3190 with hE3190; subst hE3190
        exact ⟨m3041,l3042,rfl,h.z⟩
      ·
       rintro ac wd ⟨m3187,l3188,rfl,h⟩
       (try dsimp only at hL3043)
       refine qe [] [1,2,6,7,8] [(1,0),(22,0),(23,0)] h fun ac wd h => ?_
       exact ⟨nf,Nat.lt_succ_self nf,(IntKind.wrap .i64 (n3040 + 1)),m3187,l3188,hL3043,h.z⟩
     ·
      refine kF h ?_
      refine wp_exit ?_
      injection hL3043 with hL3043; subst hL3043
      exact ⟨m3041,l3042,rfl,h.z⟩
  ·
   rintro ac wd ⟨m2655,l2656,rfl,h⟩
   (try dsimp only at hD)
   refine wp_seq ?_
   refine qs 282 [] [6,7,12] [(22,0),(23,0)] h fun ac wd h => ?_
   obtain ⟨e3481,hE3482,hD⟩ := Option.bind_eq_some_iff.1 hD
   refine r_meet (fun ac wd => () = e3481 ∧ SL ⟨wb,S,Φ,P0⟩ 184 366 [] [] ac wd) ?_ ?_
   ·
    refine wp_block ?_
    refine r_while (fun nf ac wd => ∃ (n3573 : Int) (l3574 : List (List Int)),L_law05_PlainOnceEach_l2 m2655 nf n3573 l3574 = some e3481 ∧ SL ⟨wb,S,Φ,P0⟩ 184 362 [(6,.one (.ptr (23,0) 0)),(7,.one (.own (22,0) l3574.length)),(12,.one (.d (.int .i64 n3573)))] [((22,0),some (.row 28 1 (openRows cols_28 (List.map (eL eI) l3574)))),((23,0),some (.box 31 (cTConf m2655)))] ac wd) (((l2656.length : Int) - 0).toNat + 1) ⟨0,l2656,hE3482,h.z⟩ (fun nf ac wd hJ => ?_)
    obtain ⟨n3573,l3574,hL3575,h⟩ := hJ
    cases nf with
    | zero => rw [L_law05_PlainOnceEach_l2] at hL3575; cases hL3575
    | succ nf =>
     rw [L_law05_PlainOnceEach_l2] at hL3575
     refine wp_seq ?_
     refine qs 366 [] [6,7,12,148] [(22,0),(23,0)] h fun ac wd h => ?_
     rcases i2 hL3575 with ⟨hb3577,hL3575⟩ | ⟨hb3577,hL3575⟩
     ·
      refine kT h ?_
      refine wp_skip ?_
      change Code.wp Try.prog _ _ _ _
      refine wp_seq ?_
      refine wp_block ?_
      obtain ⟨hb3617,hL3575⟩ := iF hL3575
      obtain ⟨hb3626,hL3575⟩ := iF hL3575
      obtain ⟨x3634,hx3635a,hx3635b,hx3635c,hx3635d,hL3575⟩ := aB hL3575
      obtain ⟨x3636,hx3637a,hx3637b,hx3637c,hx3637d,hL3575⟩ := aB hL3575
      have h := h.op (22,0) n3573.toNat 0
      have h := h.sm 367 [(6,.one (.ptr (23,0) 0)),(7,.one (.own (22,0) l3574.length)),(12,.one (.d (.int .i64 n3573))),(148,.one (.d (.bool (decide (n3573 < (l3574.length : Int))))))]
       [((22,0),some (.row 28 1 ((openRows cols_28 (List.map (eL eI) l3574)).set n3573.toNat [.own (366,0) x3636.length]))),((23,0),some (.box 31 (cTConf m2655))),((366,0),some (.row 3 1 (dat (List.map eI x3636))))]
      obtain ⟨x3638,hx3639a,hx3639b,hx3639c,hx3639d,hL3575⟩ := aB hL3575
      refine dsg 399 [] [none,none,none,none,none,none,some (some 156,false),some (some 156,false),some (some 156,false),some (some 156,false),some (some 156,false),none,none,some (some 163,false),some (some 163,false),some (some 163,false),some (some 163,false),some (some 163,false),some (some 163,false),some (some 163,false),some (some 163,false),some (some 163,false),some (some 163,false),some (some 163,false),some (some 163,false),some (some 163,false),some (some 163,false),some (some 163,false),some (some 163,false),some (some 163,false),some (some 163,false),none] [6,7,12,182] [(22,0),(23,0),(366,0)] h fun ac wd h => ?_
      have h := h.fS (cols := (fun _ => .sc)) (22,0) (366,0) (openRows cols_28 (List.map (eL eI) l3574)) n3573.toNat [.own (366,0) x3636.length] 0 (List.map eI x3636) (sc_3 _)
      have h := h.sm 399 [(6,.one (.ptr (23,0) 0)),(7,.one (.own (22,0) l3574.length)),(12,.one (.d (.int .i64 n3573))),(182,.one (.d (.bool (!(decide ((IntKind.wrap .i64 (x3634 - (x3636.length : Int))) = (x3638.length : Int)))))))]
       [((22,0),some (.row 28 1 ((openRows cols_28 (List.map (eL eI) l3574)).set n3573.toNat [.tr (.sl 3 1 (fun _ => .sc)) (.sl (List.map eI x3636))]))),((23,0),some (.box 31 (cTConf m2655)))]
      obtain ⟨hb3640,hL3575⟩ := iTe hL3575
      refine kF h ?_
      refine wp_skip ?_
      change Code.wp Try.prog _ _ _ _
      refine qe [] [6,7,12] [(22,0),(23,0)] h fun ac wd h => ?_
      exact ⟨nf,Nat.lt_succ_self nf,(IntKind.wrap .i64 (n3573 + 1)),(l3574.set n3573.toNat x3636),hL3575,h.z⟩
     ·
      refine kF h ?_
      refine wp_exit ?_
      injection hL3575 with hL3575; subst hL3575
      exact ⟨rfl,h.z⟩
   ·
    rintro ac wd ⟨rfl,h⟩
    (try dsimp only at hD)
    obtain ⟨r3643,hc3644,hD⟩ := oB hD
    have hc3644k := L_law05_fixed_ok hc3644
    refine qs 368 [factE 366 hc3644k] [4] [] h fun ac wd h => ?_
    refine wp_ret ?_
    injection hD with hD
    subst hD
    exact rE h [.tmp 4]
 ·
  refine kT h ?_
  obtain ⟨r3647,hc3648,hD⟩ := oB hD
  have hc3648k := L_law05_fixed_ok hc3648
  refine qs 18 [factE 16 hc3648k] [4] [] h fun ac wd h => ?_
  refine wp_ret ?_
  injection hD with hD
  subst hD
  exact rE h [.tmp 4]

end Go.Proofs.Ytifcbecpemaieaa
